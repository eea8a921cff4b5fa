/- What the functions of this program answer, part wreq. -/
import Derived.Test.YtmamlgjbendjhaaGreatRows
import Derived.Test.YtmamlgjbendjhaaGreatChecked
import Derived.ProofKit
namespace Go.Proofs.YtmamlgjbendjhaaGreat
open Go Go.ChangeShapes Go.WideShapes Go.ChangeAt Go.RowKit
theorem jn9:Tryz.pinned.checked.prog.funcNamed Rows.fnExactReceiveRow.func=some 9:=by kernel_rfl
theorem HP{a b:Bool}(ha:a=true)(hb:b=true):(a&&b)=true:=by rw[ha,hb];rfl
set_option maxHeartbeats 100000000 in
theorem jf9:joinedFacts Tryz.pinned.checked.prog 9 Tryz.f9 Rows.fnExactReceiveSpec Rows.fnExactReceiveRow=true:=by
 unfold joinedFacts
 repeat' with_reducible refine HP ?_ ?_
 all_goals as_aux_lemma=>kernel_rfl
theorem ji9:Tryz.f9.isInstance Tryz.pinned.checked.prog Rows.fnExactReceiveRow.origin Rows.fnExactReceiveRow.targs:=of_decide_eq_true (by kernel_rfl)
theorem jw9:Tryz.f9.isWrapper Tryz.pinned.checked.prog Rows.fnExactReceiveRow.wrapper Rows.fnExactReceiveRow.mainSum:=by unfold Func.isWrapper;first | (rw[if_pos (by decide+kernel)];kernel_rfl) | (rw[if_neg (by decide+kernel)];exact⟨rfl,rfl⟩)
end Go.Proofs.YtmamlgjbendjhaaGreat
