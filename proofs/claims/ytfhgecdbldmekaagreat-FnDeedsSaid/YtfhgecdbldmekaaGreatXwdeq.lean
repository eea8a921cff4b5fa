/- What the functions of this program answer, part wdeq. -/
import Derived.Test.YtfhgecdbldmekaaGreatRows
import Derived.Test.YtfhgecdbldmekaaGreatChecked
import Derived.ProofKit
namespace Go.Proofs.YtfhgecdbldmekaaGreat
open Go Go.ChangeShapes Go.WideShapes Go.ChangeAt Go.RowKit
theorem jn4:Tryz.pinned.checked.prog.funcNamed Rows.fnDeedsRow.func=some 4:=by kernel_rfl
theorem VP{a b:Bool}(ha:a=true)(hb:b=true):(a&&b)=true:=by rw[ha,hb];rfl
set_option maxHeartbeats 100000000 in
theorem jf4:joinedFacts Tryz.pinned.checked.prog 4 Tryz.f4 Rows.fnDeedsSpec Rows.fnDeedsRow=true:=by
 unfold joinedFacts
 repeat' with_reducible refine VP ?_ ?_
 all_goals as_aux_lemma=>kernel_rfl
theorem ji4:Tryz.f4.isInstance Tryz.pinned.checked.prog Rows.fnDeedsRow.origin Rows.fnDeedsRow.targs:=of_decide_eq_true (by kernel_rfl)
theorem jw4:Tryz.f4.isWrapper Tryz.pinned.checked.prog Rows.fnDeedsRow.wrapper Rows.fnDeedsRow.mainSum:=by unfold Func.isWrapper;first | (rw[if_pos (by decide+kernel)];kernel_rfl) | (rw[if_neg (by decide+kernel)];exact⟨rfl,rfl⟩)
end Go.Proofs.YtfhgecdbldmekaaGreat
