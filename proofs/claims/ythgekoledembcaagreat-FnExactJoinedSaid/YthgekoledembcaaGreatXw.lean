/- What the functions of this program answer, part w. -/
import Derived.Test.YthgekoledembcaaGreatXl
set_option linter.unusedVariables false
namespace Go.Abs.Gz
open Go Go.Abs
theorem bnot_self (b : Bool) : (!(beqB b b)) = false := by rw [beqB_self]; rfl
theorem law_joined (w : Row K36) (ls : List (Row K3)) (ho0 : ROkay K36 w) (ho1 : ROkay K43 (ls, ())) : Ran p 10 6 [.val true ⟨K36, w⟩, .val false ⟨K43, (ls, ())⟩] trueOut := go6 fun n hn => Ev.now fun fuel => by
  unfold T6
  by_cases hb1 : ((List.length ls : Nat) : Int) > 1048576
  · exact bif_pos hb1
  refine (bif_neg hb1).trans ?_
  have hz1 : szR K43 (ls, ()) ≤ 1048576 := by show ((List.length ls : Nat) : Int) + sumI (szR K3) ls + 0 ≤ 1048576; rw [sumI_zero (c := szR K3) (fun x => rfl) ls]; omega
  have hs1 : Small K43 (ls, ()) := ssm (by unfold small; omega) fun i r _ => ⟨trivial, trivial⟩
  obtain ⟨r0, fr0, gr0⟩ := sz14 w 1048576 ho0 (by omega) (by omega)
  refine (call_step (fr0 n (by omega))).trans ?_
  by_cases hr0 : r0 < 0
  · exact bif_pos hr0
  have hq0 := gr0 (by omega)
  have hs0 := hq0.2
  have hp0 : r0 + szR K26 w ≤ 1048576 := hq0.1
  have hx0 := szR_nn K26 w
  have hz0 : szR K26 w ≤ 1048576 := by omega
  have hy0 : r0 ≤ 1048576 := by omega
  refine (bif_neg hr0).trans ?_
  have hc0 : cnS K26 w ≤ 67108864 := by have := cnS_le K26 w (by decide); omega
  have hn0 : 0 ≤ cnS K26 w := cnS_nn _ _
  have hl0 : LmR K26 w := Small.lm _ _ hs0
  have hc1 : cnT (.sl K3) ls ≤ 67108864 := by have e1 : szR K43 (ls, ()) = szT (.sl K3) ls + 0 := rfl; have := cnT_le (.sl K3) ls (by decide); rw [e1] at hz1; have e2 : (bif flatK (.sl K3) then (1 : Int) else 0) = 0 := rfl; rw [e2] at this; omega
  have hn1 : 0 ≤ cnT (.sl K3) ls := cnT_nn _ _
  have hl1 : LmT (.sl K3) ls := TSm.lm _ _ (shd hs1)
  have hz : SzW w := szW_of hs0
  have hlen : ls.length ≤ small := by unfold small; omega
  have rc0 : cnS K49 (joined w ls) ≤ 1000000000000 := state_cn _ (joined_sz w ls)
  have rn0 : 0 ≤ cnS K49 (joined w ls) := cnS_nn _ _
  have rl0 : LmR K49 (joined w ls) := state_lm _ (joined_sz w ls)
  refine (call_step (to17 w hs0 n (by omega))).trans ?_
  refine (call_step (to29 ls hs1 n (by omega))).trans ?_
  refine (call_step (f28 w ls hz hlen n (by omega))).trans ?_
  refine (call_step (to17 w hs0 n (by omega))).trans ?_
  refine (call_step (to29 ls hs1 n (by omega))).trans ?_
  refine (call_step (f30 w ls hz hlen n (by omega))).trans ?_
  refine (call_step (eq21 (joined w ls) rl0 n (by omega))).trans ?_
  refine (bif_ff rfl).trans ?_
  refine (call_step (to17 w hs0 n (by omega))).trans ?_
  refine (call_step (eq11 w (Small.lm _ _ hs0) n (by omega))).trans ?_
  refine (bif_ff rfl).trans ?_
  refine (call_step (to29 ls hs1 n (by omega))).trans ?_
  refine (call_step (eq20 ls (Small.lm _ _ hs1) n (by omega))).trans ?_
  refine (bif_ff rfl).trans ?_
  refine (call_own (mk12 w (1) (by omega) (by omega) hl0 n (by omega)) _).trans ?_
  refine (call_own (mk23 ls (1 + cnS K26 w) (by omega) (by omega) hl1 n (by omega)) _).trans ?_
  refine (bif_neg (show ¬ (1 + cnS K26 w + cnT (.sl K3) ls < 0) by omega)).trans ?_
  refine (call_step (eq21 (joined w ls) rl0 n (by omega))).trans ?_
  refine (bif_ff rfl).trans ?_
  refine (call_own (mk22 (joined w ls) (1) (by omega) (by omega) rl0 n (by omega)) _).trans ?_
  refine (call_step (hd27 (joined w ls) (1) (by omega) (by omega) rl0 n (by omega))).trans ?_
  refine (bif_neg (show ¬ (1 + cnS K49 (joined w ls) < 0) by omega)).trans ?_
  refine (bif_ff (bne_self_eq_false _)).trans ?_
  refine (call_step (to17 w hs0 n (by omega))).trans ?_
  refine (call_step (to29 ls hs1 n (by omega))).trans ?_
  refine (call_step (f30 w ls hz hlen n (by omega))).trans ?_
  refine (call_step (eq21 (joined w ls) rl0 n (by omega))).trans ?_
  refine (bif_ff rfl).trans ?_
  refine (call_step (hd27 (joined w ls) (1) (by omega) (by omega) rl0 n (by omega))).trans ?_
  refine (bif_neg (show ¬ (1 + cnS K49 (joined w ls) < 0) by omega)).trans ?_
  refine (bif_ff (bne_self_eq_false _)).trans ?_
  rfl
end Go.Abs.Gz
