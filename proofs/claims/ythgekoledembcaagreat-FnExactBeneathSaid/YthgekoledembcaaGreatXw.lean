/- What the functions of this program answer, part w. -/
import Derived.Test.YthgekoledembcaaGreatXl
set_option linter.unusedVariables false
namespace Go.Abs.Gz
open Go Go.Abs
theorem bnot_self (b : Bool) : (!(beqB b b)) = false := by rw [beqB_self]; rfl
theorem law_beneath (w : Row K36) (s : Row K40) (ho0 : ROkay K36 w) (ho1 : ROkay K40 s) : Ran p 10 4 [.val true ⟨K36, w⟩, .val true ⟨K40, s⟩] trueOut := go4 fun n hn => Ev.now fun fuel => by
  obtain ⟨r0, fr0, gr0⟩ := sz14 w 1048576 ho0 (by omega) (by omega)
  unfold T4
  refine (call_step (fr0 n (by omega))).trans ?_
  by_cases hr0 : r0 < 0
  · exact bif_pos hr0
  have hq0 := gr0 (by omega)
  have hs0 := hq0.2
  have hp0 : r0 + szR K26 w ≤ 1048576 := hq0.1
  have hx0 := szR_nn K26 w
  have hz0 : szR K26 w ≤ 1048576 := by omega
  have hy0 : r0 ≤ 1048576 := by omega
  refine (bif_neg hr0).trans ?_
  obtain ⟨r1, fr1, gr1⟩ := sz15 s r0 ho1 (by omega) (by omega)
  refine (call_step (fr1 n (by omega))).trans ?_
  by_cases hr1 : r1 < 0
  · exact bif_pos hr1
  have hq1 := gr1 (by omega)
  have hs1 := hq1.2
  have hp1 : r1 + szR K49 s ≤ r0 := hq1.1
  have hx1 := szR_nn K49 s
  have hz1 : szR K49 s ≤ 1048576 := by omega
  have hy1 : r1 ≤ 1048576 := by omega
  refine (bif_neg hr1).trans ?_
  have hc0 : cnS K26 w ≤ 67108864 := by have := cnS_le K26 w (by decide); omega
  have hn0 : 0 ≤ cnS K26 w := cnS_nn _ _
  have hl0 : LmR K26 w := Small.lm _ _ hs0
  have hc1 : cnS K49 s ≤ 67108864 := by have := cnS_le K49 s (by decide); omega
  have hn1 : 0 ≤ cnS K49 s := cnS_nn _ _
  have hl1 : LmR K49 s := Small.lm _ _ hs1
  have hz : SzW w := szW_of hs0
  have hz2 : SzS s := szS_of hs1
  have hlen : (beneath w s).length ≤ small := beneath_len w s hz.said
  have rc0 : cnT (.sl K3) (beneath w s) ≤ 1000000000000 := by have h : (beneath w s).length ≤ 1048576 := hlen; have := nums_cn (beneath w s); omega
  have rn0 : 0 ≤ cnT (.sl K3) (beneath w s) := cnT_nn _ _
  have rl0 : LmT (.sl K3) (beneath w s) := nums_lm _ (Nat.le_trans hlen (by decide))
  refine (call_step (to17 w hs0 n (by omega))).trans ?_
  refine (call_step (to18 s hs1 n (by omega))).trans ?_
  refine (call_step (f16 w s hz hz2 n (by omega))).trans ?_
  refine (call_step (to17 w hs0 n (by omega))).trans ?_
  refine (call_step (to18 s hs1 n (by omega))).trans ?_
  refine (call_step (f19 w s hz hz2 n (by omega))).trans ?_
  refine (call_step (eq20 (beneath w s) (lmk rl0 trivial) n (by omega))).trans ?_
  refine (bif_ff rfl).trans ?_
  refine (call_step (to17 w hs0 n (by omega))).trans ?_
  refine (call_step (eq11 w (Small.lm _ _ hs0) n (by omega))).trans ?_
  refine (bif_ff rfl).trans ?_
  refine (call_step (to18 s hs1 n (by omega))).trans ?_
  refine (call_step (eq21 s (Small.lm _ _ hs1) n (by omega))).trans ?_
  refine (bif_ff rfl).trans ?_
  refine (call_own (mk12 w (1) (by omega) (by omega) hl0 n (by omega)) _).trans ?_
  refine (call_own (mk22 s (1 + cnS K26 w) (by omega) (by omega) hl1 n (by omega)) _).trans ?_
  refine (bif_neg (show ¬ (1 + cnS K26 w + cnS K49 s < 0) by omega)).trans ?_
  refine (call_step (eq20 (beneath w s) (lmk rl0 trivial) n (by omega))).trans ?_
  refine (bif_ff rfl).trans ?_
  refine (call_own (mk23 (beneath w s) (1) (by omega) (by omega) rl0 n (by omega)) _).trans ?_
  refine (call_step (hd24 (beneath w s) (1) (by omega) (by omega) rl0 n (by omega))).trans ?_
  refine (bif_neg (show ¬ (1 + cnT (.sl K3) (beneath w s) < 0) by omega)).trans ?_
  refine (bif_ff (bne_self_eq_false _)).trans ?_
  refine (call_step (to17 w hs0 n (by omega))).trans ?_
  refine (call_step (to18 s hs1 n (by omega))).trans ?_
  refine (call_step (f19 w s hz hz2 n (by omega))).trans ?_
  refine (call_step (eq20 (beneath w s) (lmk rl0 trivial) n (by omega))).trans ?_
  refine (bif_ff rfl).trans ?_
  refine (call_step (hd24 (beneath w s) (1) (by omega) (by omega) rl0 n (by omega))).trans ?_
  refine (bif_neg (show ¬ (1 + cnT (.sl K3) (beneath w s) < 0) by omega)).trans ?_
  refine (bif_ff (bne_self_eq_false _)).trans ?_
  rfl
end Go.Abs.Gz
