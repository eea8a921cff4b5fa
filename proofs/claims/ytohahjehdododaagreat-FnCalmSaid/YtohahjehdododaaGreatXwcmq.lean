/- What the functions of this program answer, part wcmq. -/
import Derived.Test.YtohahjehdododaaGreatRows
import Derived.Test.YtohahjehdododaaGreatChecked
import Derived.ProofKit
namespace Go.Proofs.YtohahjehdododaaGreat
open Go Go.ChangeShapes Go.WideShapes Go.ChangeAt Go.RowKit
theorem jn4:Tryz.pinned.checked.prog.funcNamed Rows.fnCalmRow.func=some 4:=by kernel_rfl
theorem T5{a b:Bool}(ha:a=true)(hb:b=true):(a&&b)=true:=by rw[ha,hb];rfl
set_option maxHeartbeats 100000000 in
theorem jf4:joinedFacts Tryz.pinned.checked.prog 4 Tryz.f4 Rows.fnCalmSpec Rows.fnCalmRow=true:=by
 unfold joinedFacts
 repeat' with_reducible refine T5 ?_ ?_
 all_goals as_aux_lemma=>kernel_rfl
theorem ji4:Tryz.f4.isInstance Tryz.pinned.checked.prog Rows.fnCalmRow.origin Rows.fnCalmRow.targs:=of_decide_eq_true (by kernel_rfl)
theorem jw4:Tryz.f4.isWrapper Tryz.pinned.checked.prog Rows.fnCalmRow.wrapper Rows.fnCalmRow.mainSum:=by unfold Func.isWrapper;first | (rw[if_pos (by decide+kernel)];kernel_rfl) | (rw[if_neg (by decide+kernel)];exact⟨rfl,rfl⟩)
end Go.Proofs.YtohahjehdododaaGreat
