/- What the functions of this program answer, part wrbq. -/
import Derived.Test.YtmamlgjbendjhaaGreatRows
import Derived.Test.YtmamlgjbendjhaaGreatChecked
import Derived.ProofKit
namespace Go.Proofs.YtmamlgjbendjhaaGreat
open Go Go.ChangeShapes Go.WideShapes Go.ChangeAt Go.RowKit
theorem jn7:Tryz.pinned.checked.prog.funcNamed Rows.fnReceivedBytesRow.func=some 7:=by kernel_rfl
theorem SP{a b:Bool}(ha:a=true)(hb:b=true):(a&&b)=true:=by rw[ha,hb];rfl
set_option maxHeartbeats 100000000 in
theorem jf7:joinedFacts Tryz.pinned.checked.prog 7 Tryz.f7 Rows.fnReceivedBytesSpec Rows.fnReceivedBytesRow=true:=by
 unfold joinedFacts
 repeat' with_reducible refine SP ?_ ?_
 all_goals as_aux_lemma=>kernel_rfl
theorem ji7:Tryz.f7.isInstance Tryz.pinned.checked.prog Rows.fnReceivedBytesRow.origin Rows.fnReceivedBytesRow.targs:=of_decide_eq_true (by kernel_rfl)
theorem jw7:Tryz.f7.isWrapper Tryz.pinned.checked.prog Rows.fnReceivedBytesRow.wrapper Rows.fnReceivedBytesRow.mainSum:=by unfold Func.isWrapper;first | (rw[if_pos (by decide+kernel)];kernel_rfl) | (rw[if_neg (by decide+kernel)];exact⟨rfl,rfl⟩)
end Go.Proofs.YtmamlgjbendjhaaGreat
