/- What the functions of this program answer, part w. -/
import Derived.Test.YthgekoledembcaaGreatXn
set_option linter.unusedVariables false
namespace Go.Abs.Gz
open Go Go.Abs
theorem bnot_self (b : Bool) : (!(beqB b b)) = false := by rw [beqB_self]; rfl
theorem law_worldNew (m : Int) (cap : Int) (slots : Int) (wait : Int) (lim : Int) (ho0 : ROkay K3 (m, ())) (ho1 : ROkay K3 (cap, ())) (ho2 : ROkay K3 (slots, ())) (ho3 : ROkay K3 (wait, ())) (ho4 : ROkay K3 (lim, ())) : Ran p 10 3 [.val false ⟨K3, (m, ())⟩, .val false ⟨K3, (cap, ())⟩, .val false ⟨K3, (slots, ())⟩, .val false ⟨K3, (wait, ())⟩, .val false ⟨K3, (lim, ())⟩] trueOut := go3 fun n hn => Ev.now fun fuel => by
  unfold T3
  
  have rc0 : cnS K26 (wnRow m cap slots wait lim) ≤ 1000000000000 := wn_cn _ _ _ _ _
  have rn0 : 0 ≤ cnS K26 (wnRow m cap slots wait lim) := cnS_nn _ _
  have rl0 : LmR K26 (wnRow m cap slots wait lim) := wn_lm _ _ _ _ _
  refine (call_step2 (f9 m cap slots wait lim n (by omega))).trans ?_
  refine (call_step2 (f10 m cap slots wait lim n (by omega))).trans ?_
  refine (call_step (eq11 (wnRow m cap slots wait lim) rl0 n (by omega))).trans ?_
  refine (bif_ff rfl).trans ?_
  refine (bif_ff (bnot_self _)).trans ?_
  refine (call_own (mk12 (wnRow m cap slots wait lim) (1) (by omega) (by omega) rl0 n (by omega)) _).trans ?_
  refine (call_step (hd13 (wnRow m cap slots wait lim) (1) (by omega) (by omega) rl0 n (by omega))).trans ?_
  refine (bif_neg (show ¬ (1 + cnS K26 (wnRow m cap slots wait lim) < 0) by omega)).trans ?_
  refine (bif_ff (bne_self_eq_false _)).trans ?_
  refine (call_step2 (f10 m cap slots wait lim n (by omega))).trans ?_
  refine (call_step (eq11 (wnRow m cap slots wait lim) rl0 n (by omega))).trans ?_
  refine (bif_ff rfl).trans ?_
  refine (bif_ff (bnot_self _)).trans ?_
  refine (call_step (hd13 (wnRow m cap slots wait lim) (1) (by omega) (by omega) rl0 n (by omega))).trans ?_
  refine (bif_neg (show ¬ (1 + cnS K26 (wnRow m cap slots wait lim) < 0) by omega)).trans ?_
  refine (bif_ff (bne_self_eq_false _)).trans ?_
  rfl
end Go.Abs.Gz
