/- What the functions of this program answer, part wreq. -/
import Derived.Test.YtmamlgjbendjhaaGreatRows
import Derived.Test.YtmamlgjbendjhaaGreatChecked
import Derived.ProofKit
namespace Go.Proofs.YtmamlgjbendjhaaGreat
open Go Go.ChangeShapes Go.WideShapes Go.ChangeAt Go.RowKit
theorem jn6:Tryz.pinned.checked.prog.funcNamed Rows.fnReceivedRow.func=some 6:=by kernel_rfl
theorem NB{a b:Bool}(ha:a=true)(hb:b=true):(a&&b)=true:=by rw[ha,hb];rfl
set_option maxHeartbeats 100000000 in
theorem jf6:joinedFacts Tryz.pinned.checked.prog 6 Tryz.f6 Rows.fnReceivedSpec Rows.fnReceivedRow=true:=by
 unfold joinedFacts
 repeat' with_reducible refine NB ?_ ?_
 all_goals as_aux_lemma=>kernel_rfl
theorem ji6:Tryz.f6.isInstance Tryz.pinned.checked.prog Rows.fnReceivedRow.origin Rows.fnReceivedRow.targs:=of_decide_eq_true (by kernel_rfl)
theorem jw6:Tryz.f6.isWrapper Tryz.pinned.checked.prog Rows.fnReceivedRow.wrapper Rows.fnReceivedRow.mainSum:=by unfold Func.isWrapper;first | (rw[if_pos (by decide+kernel)];kernel_rfl) | (rw[if_neg (by decide+kernel)];exact⟨rfl,rfl⟩)
end Go.Proofs.YtmamlgjbendjhaaGreat
