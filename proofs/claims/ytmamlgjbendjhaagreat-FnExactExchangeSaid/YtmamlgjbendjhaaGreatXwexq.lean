/- What the functions of this program answer, part wexq. -/
import Derived.Test.YtmamlgjbendjhaaGreatRows
import Derived.Test.YtmamlgjbendjhaaGreatChecked
import Derived.ProofKit
namespace Go.Proofs.YtmamlgjbendjhaaGreat
open Go Go.ChangeShapes Go.WideShapes Go.ChangeAt Go.RowKit
theorem JT:Tryz.pinned.checked.prog.funcNamed Rows.fnExactExchangeRow.func=some 11:=by kernel_rfl
theorem IR{a b:Bool}(ha:a=true)(hb:b=true):(a&&b)=true:=by rw[ha,hb];rfl
set_option maxHeartbeats 100000000 in
theorem JV:joinedFacts Tryz.pinned.checked.prog 11 Tryz.f11 Rows.fnExactExchangeSpec Rows.fnExactExchangeRow=true:=by
 unfold joinedFacts
 repeat' with_reducible refine IR ?_ ?_
 all_goals as_aux_lemma=>kernel_rfl
theorem JU:Tryz.f11.isInstance Tryz.pinned.checked.prog Rows.fnExactExchangeRow.origin Rows.fnExactExchangeRow.targs:=of_decide_eq_true (by kernel_rfl)
theorem JS:Tryz.f11.isWrapper Tryz.pinned.checked.prog Rows.fnExactExchangeRow.wrapper Rows.fnExactExchangeRow.mainSum:=by unfold Func.isWrapper;first | (rw[if_pos (by decide+kernel)];kernel_rfl) | (rw[if_neg (by decide+kernel)];exact⟨rfl,rfl⟩)
end Go.Proofs.YtmamlgjbendjhaaGreat
