/- What the functions of this program answer, part wrdq. -/
import Derived.Test.YtmamlgjbendjhaaGreatRows
import Derived.Test.YtmamlgjbendjhaaGreatChecked
import Derived.ProofKit
namespace Go.Proofs.YtmamlgjbendjhaaGreat
open Go Go.ChangeShapes Go.WideShapes Go.ChangeAt Go.RowKit
theorem LI:Tryz.pinned.checked.prog.funcNamed Rows.fnExactRoundRow.func=some 12:=by kernel_rfl
theorem KB{a b:Bool}(ha:a=true)(hb:b=true):(a&&b)=true:=by rw[ha,hb];rfl
set_option maxHeartbeats 100000000 in
theorem LK:joinedFacts Tryz.pinned.checked.prog 12 Tryz.f12 Rows.fnExactRoundSpec Rows.fnExactRoundRow=true:=by
 unfold joinedFacts
 repeat' with_reducible refine KB ?_ ?_
 all_goals as_aux_lemma=>kernel_rfl
theorem LJ:Tryz.f12.isInstance Tryz.pinned.checked.prog Rows.fnExactRoundRow.origin Rows.fnExactRoundRow.targs:=of_decide_eq_true (by kernel_rfl)
theorem LH:Tryz.f12.isWrapper Tryz.pinned.checked.prog Rows.fnExactRoundRow.wrapper Rows.fnExactRoundRow.mainSum:=by unfold Func.isWrapper;first | (rw[if_pos (by decide+kernel)];kernel_rfl) | (rw[if_neg (by decide+kernel)];exact⟨rfl,rfl⟩)
end Go.Proofs.YtmamlgjbendjhaaGreat
