/- What the functions of this program answer, part w. -/
import Derived.Test.YthgekoledembcaaXl
set_option linter.unusedVariables false
namespace Go.Abs.Nz
open Go Go.Abs
theorem bnot_self (b : Bool) : (!(beqB b b)) = false := by rw [beqB_self]; rfl
theorem law_newsApply (its : List (Row K63)) (ls : List (Row K66)) (ho0 : ROkay K22 (its, ())) (ho1 : ROkay K23 (ls, ())) : Ran p 4 3 [.val false ⟨K22, (its, ())⟩, .val false ⟨K23, (ls, ())⟩] trueOut := go3 fun n hn => Ev.now fun fuel => by
  obtain ⟨r0, fr0, gr0⟩ := sz6 its 1048576 ho0 (by omega) (by omega)
  unfold T3
  refine (call_step (fr0 n (by omega))).trans ?_
  by_cases hr0 : r0 < 0
  · exact bif_pos hr0
  have hq0 := gr0 (by omega)
  have hs0 := hq0.2
  have hp0 : r0 + szR K26 (its, ()) ≤ 1048576 := hq0.1
  have hx0 := szR_nn K26 (its, ())
  have hz0 : szR K26 (its, ()) ≤ 1048576 := by omega
  have hy0 : r0 ≤ 1048576 := by omega
  refine (bif_neg hr0).trans ?_
  obtain ⟨r1, fr1, gr1⟩ := sz7 ls r0 ho1 (by omega) (by omega)
  refine (call_step (fr1 n (by omega))).trans ?_
  by_cases hr1 : r1 < 0
  · exact bif_pos hr1
  have hq1 := gr1 (by omega)
  have hs1 := hq1.2
  have hp1 : r1 + szR K29 (ls, ()) ≤ r0 := hq1.1
  have hx1 := szR_nn K29 (ls, ())
  have hz1 : szR K29 (ls, ()) ≤ 1048576 := by omega
  have hy1 : r1 ≤ 1048576 := by omega
  refine (bif_neg hr1).trans ?_
  have hc0 : cnT (.sl K68) its ≤ 67108864 := by have e1 : szR K26 (its, ()) = szT (.sl K68) its + 0 := rfl; have := cnT_le (.sl K68) its (by decide); rw [e1] at hz0; have e2 : (bif flatK (.sl K68) then (1 : Int) else 0) = 0 := rfl; rw [e2] at this; omega
  have hn0 : 0 ≤ cnT (.sl K68) its := cnT_nn _ _
  have hl0 : LmT (.sl K68) its := TSm.lm _ _ (shd hs0)
  have hc1 : cnT (.sl K48) ls ≤ 67108864 := by have e1 : szR K29 (ls, ()) = szT (.sl K48) ls + 0 := rfl; have := cnT_le (.sl K48) ls (by decide); rw [e1] at hz1; have e2 : (bif flatK (.sl K48) then (1 : Int) else 0) = 0 := rfl; rw [e2] at this; omega
  have hn1 : 0 ≤ cnT (.sl K48) ls := cnT_nn _ _
  have hl1 : LmT (.sl K48) ls := TSm.lm _ _ (shd hs1)
  have hlen : ls.length ≤ small := (ssl hs1).1
  have hlen0 : List.length (α := ItemT) its ≤ 1048576 := (ssl hs0).1
  have hlen1 : List.length (α := ItemT) its ≤ 2097152 := by omega
  have hlen2 := applyTo_len its ls (List.length (α := NewsT) ls)
  have hlen3 : List.length (α := NewsT) ls ≤ 1048576 := hlen
  have hlen4 : (applyN its ls).length ≤ 3000000 := by unfold applyN; omega
  have rc0 : cnT (.sl K68) (applyN its ls) ≤ 1000000000000 := by have := items_cn (applyN its ls); omega
  have rn0 : 0 ≤ cnT (.sl K68) (applyN its ls) := cnT_nn _ _
  have rl0 : LmT (.sl K68) (applyN its ls) := items_lm _ (by omega)
  refine (call_step (to9 its hs0 n (by omega))).trans ?_
  refine (call_step (to10 ls hs1 n (by omega))).trans ?_
  refine (call_step (f8 its ls hlen1 hlen n (by omega))).trans ?_
  refine (call_step (to9 its hs0 n (by omega))).trans ?_
  refine (call_step (to10 ls hs1 n (by omega))).trans ?_
  refine (call_step (f11 its ls hlen1 hlen n (by omega))).trans ?_
  refine (call_step (eq12 (applyN its ls) (lmk rl0 trivial) n (by omega))).trans ?_
  refine (bif_ff rfl).trans ?_
  refine (call_step (to9 its hs0 n (by omega))).trans ?_
  refine (call_step (eq12 its (Small.lm _ _ hs0) n (by omega))).trans ?_
  refine (bif_ff rfl).trans ?_
  refine (call_step (to10 ls hs1 n (by omega))).trans ?_
  refine (call_step (eq13 ls (Small.lm _ _ hs1) n (by omega))).trans ?_
  refine (bif_ff rfl).trans ?_
  refine (call_own (mk14 its (1) (by omega) (by omega) hl0 n (by omega)) _).trans ?_
  refine (call_own (mk15 ls (1 + cnT (.sl K68) its) (by omega) (by omega) hl1 n (by omega)) _).trans ?_
  refine (bif_neg (show ¬ (1 + cnT (.sl K68) its + cnT (.sl K48) ls < 0) by omega)).trans ?_
  refine (call_step (eq12 (applyN its ls) (lmk rl0 trivial) n (by omega))).trans ?_
  refine (bif_ff rfl).trans ?_
  refine (call_own (mk14 (applyN its ls) (1) (by omega) (by omega) rl0 n (by omega)) _).trans ?_
  refine (call_step (hd16 (applyN its ls) (1) (by omega) (by omega) rl0 n (by omega))).trans ?_
  refine (bif_neg (show ¬ (1 + cnT (.sl K68) (applyN its ls) < 0) by omega)).trans ?_
  refine (bif_ff (bne_self_eq_false _)).trans ?_
  refine (call_step (to9 its hs0 n (by omega))).trans ?_
  refine (call_step (to10 ls hs1 n (by omega))).trans ?_
  refine (call_step (f11 its ls hlen1 hlen n (by omega))).trans ?_
  refine (call_step (eq12 (applyN its ls) (lmk rl0 trivial) n (by omega))).trans ?_
  refine (bif_ff rfl).trans ?_
  refine (call_step (hd16 (applyN its ls) (1) (by omega) (by omega) rl0 n (by omega))).trans ?_
  refine (bif_neg (show ¬ (1 + cnT (.sl K68) (applyN its ls) < 0) by omega)).trans ?_
  refine (bif_ff (bne_self_eq_false _)).trans ?_
  rfl
end Go.Abs.Nz
