/- What the functions of this program answer, part w. -/
import Derived.Test.YthgekoledembcaaXl
set_option linter.unusedVariables false
namespace Go.Abs.Nz
open Go Go.Abs
theorem bnot_self (b : Bool) : (!(beqB b b)) = false := by rw [beqB_self]; rfl
theorem law_newsOf (a : Row K54) (b : Row K54) (ho0 : ROkay K54 a) (ho1 : ROkay K54 b) : Ran p 7 5 [.val true ⟨K54, a⟩, .val true ⟨K54, b⟩] trueOut := go5 fun n hn => Ev.now fun fuel => by
  obtain ⟨r0, fr0, gr0⟩ := sz24 a 1048576 ho0 (by omega) (by omega)
  unfold T5
  refine (call_step (fr0 n (by omega))).trans ?_
  by_cases hr0 : r0 < 0
  · exact bif_pos hr0
  have hq0 := gr0 (by omega)
  have hs0 := hq0.2
  have hp0 : r0 + szR K40 a ≤ 1048576 := hq0.1
  have hx0 := szR_nn K40 a
  have hz0 : szR K40 a ≤ 1048576 := by omega
  have hy0 : r0 ≤ 1048576 := by omega
  refine (bif_neg hr0).trans ?_
  obtain ⟨r1, fr1, gr1⟩ := sz24 b r0 ho1 (by omega) (by omega)
  refine (call_step (fr1 n (by omega))).trans ?_
  by_cases hr1 : r1 < 0
  · exact bif_pos hr1
  have hq1 := gr1 (by omega)
  have hs1 := hq1.2
  have hp1 : r1 + szR K40 b ≤ r0 := hq1.1
  have hx1 := szR_nn K40 b
  have hz1 : szR K40 b ≤ 1048576 := by omega
  have hy1 : r1 ≤ 1048576 := by omega
  refine (bif_neg hr1).trans ?_
  have hc0 : cnS K40 a ≤ 67108864 := by have := cnS_le K40 a (by decide); omega
  have hn0 : 0 ≤ cnS K40 a := cnS_nn _ _
  have hl0 : LmR K40 a := Small.lm _ _ hs0
  have hc1 : cnS K40 b ≤ 67108864 := by have := cnS_le K40 b (by decide); omega
  have hn1 : 0 ≤ cnS K40 b := cnS_nn _ _
  have hl1 : LmR K40 b := Small.lm _ _ hs1
  have h0 : SzS a := szS_of hs0
  have h1 : SzS b := szS_of hs1
  have hlen := newsOf_len a b
  have rc0 : cnT (.sl K48) (newsOf a b) ≤ 1000000000000 := by rw [news_cn]; omega
  have rn0 : 0 ≤ cnT (.sl K48) (newsOf a b) := cnT_nn _ _
  have rl0 : LmT (.sl K48) (newsOf a b) := news_lm _ (by omega)
  refine (call_step (to25 a hs0 n (by omega))).trans ?_
  refine (call_step (to25 b hs1 n (by omega))).trans ?_
  refine (call_step (f20 a b h0 h1 n (by omega))).trans ?_
  refine (call_step (to25 a hs0 n (by omega))).trans ?_
  refine (call_step (to25 b hs1 n (by omega))).trans ?_
  refine (call_step (f19 a b h0 h1 n (by omega))).trans ?_
  refine (call_step (eq13 (newsOf a b) (lmk rl0 trivial) n (by omega))).trans ?_
  refine (bif_ff rfl).trans ?_
  refine (call_step (to25 a hs0 n (by omega))).trans ?_
  refine (call_step (eq26 a (Small.lm _ _ hs0) n (by omega))).trans ?_
  refine (bif_ff rfl).trans ?_
  refine (call_step (to25 b hs1 n (by omega))).trans ?_
  refine (call_step (eq26 b (Small.lm _ _ hs1) n (by omega))).trans ?_
  refine (bif_ff rfl).trans ?_
  refine (call_own (mk27 a (1) (by omega) (by omega) hl0 n (by omega)) _).trans ?_
  refine (call_own (mk27 b (1 + cnS K40 a) (by omega) (by omega) hl1 n (by omega)) _).trans ?_
  refine (bif_neg (show ¬ (1 + cnS K40 a + cnS K40 b < 0) by omega)).trans ?_
  refine (call_step (eq13 (newsOf a b) (lmk rl0 trivial) n (by omega))).trans ?_
  refine (bif_ff rfl).trans ?_
  refine (call_own (mk15 (newsOf a b) (1) (by omega) (by omega) rl0 n (by omega)) _).trans ?_
  refine (call_step (hd28 (newsOf a b) (1) (by omega) (by omega) rl0 n (by omega))).trans ?_
  refine (bif_neg (show ¬ (1 + cnT (.sl K48) (newsOf a b) < 0) by omega)).trans ?_
  refine (bif_ff (bne_self_eq_false _)).trans ?_
  refine (call_step (to25 a hs0 n (by omega))).trans ?_
  refine (call_step (to25 b hs1 n (by omega))).trans ?_
  refine (call_step (f19 a b h0 h1 n (by omega))).trans ?_
  refine (call_step (eq13 (newsOf a b) (lmk rl0 trivial) n (by omega))).trans ?_
  refine (bif_ff rfl).trans ?_
  refine (call_step (hd28 (newsOf a b) (1) (by omega) (by omega) rl0 n (by omega))).trans ?_
  refine (bif_neg (show ¬ (1 + cnT (.sl K48) (newsOf a b) < 0) by omega)).trans ?_
  refine (bif_ff (bne_self_eq_false _)).trans ?_
  rfl
end Go.Abs.Nz
