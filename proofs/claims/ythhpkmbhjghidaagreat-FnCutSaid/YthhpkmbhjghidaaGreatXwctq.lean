/- What the functions of this program answer, part wctq. -/
import Derived.Test.YthhpkmbhjghidaaGreatRows
import Derived.Test.YthhpkmbhjghidaaGreatChecked
import Derived.ProofKit
namespace Go.Proofs.YthhpkmbhjghidaaGreat
open Go Go.ChangeShapes Go.WideShapes Go.ChangeAt Go.RowKit
theorem jn3:Tryz.pinned.checked.prog.funcNamed Rows.fnCutRow.func=some 3:=by kernel_rfl
theorem UY{a b:Bool}(ha:a=true)(hb:b=true):(a&&b)=true:=by rw[ha,hb];rfl
set_option maxHeartbeats 100000000 in
theorem jf3:joinedFacts Tryz.pinned.checked.prog 3 Tryz.f3 Rows.fnCutSpec Rows.fnCutRow=true:=by
 unfold joinedFacts
 repeat' with_reducible refine UY ?_ ?_
 all_goals as_aux_lemma=>kernel_rfl
theorem ji3:Tryz.f3.isInstance Tryz.pinned.checked.prog Rows.fnCutRow.origin Rows.fnCutRow.targs:=of_decide_eq_true (by kernel_rfl)
theorem jw3:Tryz.f3.isWrapper Tryz.pinned.checked.prog Rows.fnCutRow.wrapper Rows.fnCutRow.mainSum:=by unfold Func.isWrapper;first | (rw[if_pos (by decide+kernel)];kernel_rfl) | (rw[if_neg (by decide+kernel)];exact⟨rfl,rfl⟩)
end Go.Proofs.YthhpkmbhjghidaaGreat
