/- What the functions of this program answer, part wrxq. -/
import Derived.Test.YtmamlgjbendjhaaGreatRows
import Derived.Test.YtmamlgjbendjhaaGreatChecked
import Derived.ProofKit
namespace Go.Proofs.YtmamlgjbendjhaaGreat
open Go Go.ChangeShapes Go.WideShapes Go.ChangeAt Go.RowKit
theorem RY:Tryz.pinned.checked.prog.funcNamed Rows.fnExactReceiveBytesRow.func=some 10:=by kernel_rfl
theorem QP{a b:Bool}(ha:a=true)(hb:b=true):(a&&b)=true:=by rw[ha,hb];rfl
set_option maxHeartbeats 100000000 in
theorem R3:joinedFacts Tryz.pinned.checked.prog 10 Tryz.f10 Rows.fnExactReceiveBytesSpec Rows.fnExactReceiveBytesRow=true:=by
 unfold joinedFacts
 repeat' with_reducible refine QP ?_ ?_
 all_goals as_aux_lemma=>kernel_rfl
theorem RZ:Tryz.f10.isInstance Tryz.pinned.checked.prog Rows.fnExactReceiveBytesRow.origin Rows.fnExactReceiveBytesRow.targs:=of_decide_eq_true (by kernel_rfl)
theorem RX:Tryz.f10.isWrapper Tryz.pinned.checked.prog Rows.fnExactReceiveBytesRow.wrapper Rows.fnExactReceiveBytesRow.mainSum:=by unfold Func.isWrapper;first | (rw[if_pos (by decide+kernel)];kernel_rfl) | (rw[if_neg (by decide+kernel)];exact⟨rfl,rfl⟩)
end Go.Proofs.YtmamlgjbendjhaaGreat
