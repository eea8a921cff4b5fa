/- What the functions of this program answer, part f. -/
import Derived.Test.YthgbmlfjiagadaaGreatXe
import Derived.Test.YthgbmlfjiagadaaGreatW2
import Derived.Test.YthgbmlfjiagadaaGreatW1
set_option linter.unusedVariables false
namespace Go.Abs.Tz
open Go Go.Abs
theorem exactWorldOk (w : WorldT) (hok : ROkay K37 w) : Ran p 10 4 [.val true ⟨K37, w⟩] trueOut := go4 fun n hn => Ev.now fun fuel => by
  obtain ⟨r, fr, gr⟩ := sz20 w 1048576 hok (by decide) (by decide)
  unfold T4; refine (call_step (fr n (by omega))).trans ?_
  by_cases hr : r < 0
  · exact bif_pos hr
  · have hs : Small K37 w := (gr (by omega)).2
    have hz : SzW w := szW_of hs
    refine (bif_neg hr).trans ?_; refine (call_step (to21 w hs n (by omega))).trans ?_; refine (call_step (f13 w hz n (by omega))).trans ?_; refine (call_step (to21 w hs n (by omega))).trans ?_; refine (call_step (f16 w hz n (by omega))).trans ?_
    refine (bif_ff (by show (!(beqB (worldOk w) (worldOk w))) = false; rw [beqB_self]; rfl)).trans ?_
    refine (call_step (to21 w hs n (by omega))).trans ?_; refine (call_step (eq22 w hs n (by omega))).trans ?_; rfl
end Go.Abs.Tz
