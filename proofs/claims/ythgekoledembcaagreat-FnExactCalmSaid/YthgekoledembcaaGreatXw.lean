/- What the functions of this program answer, part w. -/
import Derived.Test.YthgekoledembcaaGreatXu
set_option linter.unusedVariables false
namespace Go.Abs.Gz
open Go Go.Abs
theorem law_calm (w : Row K36) (ho0 : ROkay K36 w) : Ran p 10 8 [.val true ⟨K36, w⟩] trueOut := go8 fun n hn => Ev.now fun fuel => by
 obtain ⟨r0, fr0, gr0⟩ := sz14 w 1048576 ho0 (by omega) (by omega)
 unfold T8
 refine (call_step (fr0 n (by omega))).trans ?_
 by_cases hr0 : r0 < 0
 ·exact bif_pos hr0
 have hq0 := gr0 (by omega)
 have hs0 := hq0.2
 have hp0 : r0 + szR K26 w ≤ 1048576 := hq0.1
 have hx0 := szR_nn K26 w
 have hz0 : szR K26 w ≤ 1048576 := by omega
 have hy0 : r0 ≤ 1048576 := by omega
 refine (bif_neg hr0).trans ?_
 have hc0 : cnS K26 w ≤ 67108864 := by have := cnS_le K26 w (by decide); omega
 have hn0 : 0 ≤ cnS K26 w := cnS_nn _ _
 have hl0 : LmR K26 w := Small.lm _ _ hs0
 have hz : SzX w := szX_of hs0
 have rc0 : cnS K26 (calmW w) ≤ 1000000000000 := by have := calm_cn w; omega
 have rn0 : 0 ≤ cnS K26 (calmW w) := cnS_nn _ _
 have rl0 : LmR K26 (calmW w) := calm_lm w hz.toSzW hl0
 refine (call_step (to17 w hs0 n (by omega))).trans ?_
 refine (call_step (f33 w hz n (by omega))).trans ?_
 refine (call_step (to17 w hs0 n (by omega))).trans ?_
 refine (call_step (f34 w hz n (by omega))).trans ?_
 refine (call_step (eq11 (calmW w) rl0 n (by omega))).trans ?_
 refine (bif_ff rfl).trans ?_
 refine (call_step (to17 w hs0 n (by omega))).trans ?_
 refine (call_step (eq11 w (Small.lm _ _ hs0) n (by omega))).trans ?_
 refine (bif_ff rfl).trans ?_
 refine (call_own (mk12 w (1) (by omega) (by omega) hl0 n (by omega)) _).trans ?_
 refine (bif_neg (show ¬ (1 + cnS K26 w < 0) by omega)).trans ?_
 refine (call_step (eq11 (calmW w) rl0 n (by omega))).trans ?_
 refine (bif_ff rfl).trans ?_
 refine (call_own (mk12 (calmW w) (1) (by omega) (by omega) rl0 n (by omega)) _).trans ?_
 refine (call_step (hd13 (calmW w) (1) (by omega) (by omega) rl0 n (by omega))).trans ?_
 refine (bif_neg (show ¬ (1 + cnS K26 (calmW w) < 0) by omega)).trans ?_
 refine (bif_ff (bne_self_eq_false _)).trans ?_
 refine (call_step (to17 w hs0 n (by omega))).trans ?_
 refine (call_step (f34 w hz n (by omega))).trans ?_
 refine (call_step (eq11 (calmW w) rl0 n (by omega))).trans ?_
 refine (bif_ff rfl).trans ?_
 refine (call_step (hd13 (calmW w) (1) (by omega) (by omega) rl0 n (by omega))).trans ?_
 refine (bif_neg (show ¬ (1 + cnS K26 (calmW w) < 0) by omega)).trans ?_
 refine (bif_ff (bne_self_eq_false _)).trans ?_
 rfl
end Go.Abs.Gz
