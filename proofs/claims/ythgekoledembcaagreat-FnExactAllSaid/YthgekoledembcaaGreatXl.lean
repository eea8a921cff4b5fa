/- What the functions of this program answer, part l. -/
import Derived.Test.YthgekoledembcaaGreatXk
import Derived.Test.YthgekoledembcaaGreatXa
import Derived.Test.YthgekoledembcaaGreatXm
import Derived.Test.YthgekoledembcaaGreatW2
set_option linter.unusedVariables false
namespace Go.Abs.Gz
open Go Go.Abs
theorem f25 (w : WorldT) (hz : SzW w) : Ran p 9 25 [.val true ⟨K26, w⟩] ⟨[⟨K49, allS w⟩], []⟩ := go25 fun n hn => by
  cases hw : worldOk w with
  | false =>
    refine Ev.now fun fuel => ?_
    unfold T25 allS; refine (call_step (f36 w hz n (by omega))).trans ?_; rw [hw]; rfl
  | true =>
    have lp : It (fun fuel (_ : Unit) => c25_5 (arun p n) fuel w) ((0 : Int), ([] : List ItemT), ([] : List FloorT)) (fun _ => some ⟨[⟨K49, joinTo (partOf w) w.2.2.1.length⟩], []⟩) := by
      refine It.run (fun i => ((i : Int), (joinTo (partOf w) i).1, (joinTo (partOf w) i).2.1)) w.2.2.1.length (fun i hi fuel u rec => ?_) (It.stop fun fuel u rec => ?_)
      · have hb := small_lt hi hz.said
        show c25_5 (arun p n) fuel w rec ((i : Int), (joinTo (partOf w) i).1, (joinTo (partOf w) i).2.1) = _
        unfold c25_5; dsimp only; rw [wrap_succ hb]; refine (bif_pos (Int.ofNat_lt.2 hi)).trans ?_; refine (bif_pos (Int.natCast_nonneg _)).trans ?_; refine (at_step hi).trans ?_; refine (call_step (f66 (joinTo (partOf w) i) (partOf w i) (joinTo_sz _ i) (hz.part i hi) (joinTo_pos _ i) ((stateOk_iff _).1 (worldOk_part hw hi)).pos n (by omega))).trans ?_; rfl
      · show c25_5 (arun p n) fuel w rec ((w.2.2.1.length : Int), (joinTo (partOf w) w.2.2.1.length).1, (joinTo (partOf w) w.2.2.1.length).2.1) = _
        unfold c25_5; refine (bif_neg (Int.lt_irrefl _)).trans ?_; rfl
    have e : allS w = joinTo (partOf w) w.2.2.1.length := by unfold allS; rw [hw]; rfl
    rw [e]
    exact Ev.eq (fun fuel => by unfold T25; refine (call_step (f36 w hz n (by omega))).trans ?_; rw [hw]; rfl) (lp.ev (i := ()) rfl)
theorem items_lm (xs : List ItemT) (h : xs.length ≤ 4611686018427387904) : LmT (.sl K139) xs := ⟨h, fun i r _ => ⟨trivial, trivial, trivial, trivial, trivial, trivial, trivial⟩⟩
theorem floors_lm (xs : List FloorT) (h : xs.length ≤ 4611686018427387904) : LmT (.sl K143) xs := ⟨h, fun i r _ => ⟨trivial, trivial, trivial⟩⟩
theorem nums_lm (xs : List NumT) (h : xs.length ≤ 4611686018427387904) : LmT (.sl K3) xs := ⟨h, fun i r _ => ⟨trivial, trivial⟩⟩
theorem items_cn (xs : List ItemT) : cnT (.sl K139) xs = 6 * ((xs.length : Nat) : Int) := sumI_const (c := cnR K139) (n := 6) (fun x => rfl) xs
theorem floors_cn (xs : List FloorT) : cnT (.sl K143) xs = 2 * ((xs.length : Nat) : Int) := sumI_const (c := cnR K143) (n := 2) (fun x => rfl) xs
theorem nums_cn (xs : List NumT) : cnT (.sl K3) xs = 1 * ((xs.length : Nat) : Int) := sumI_const (c := cnR K3) (n := 1) (fun x => rfl) xs
theorem state_lm (s : StateT) (h : SzS s) : LmR K49 s := ⟨items_lm s.1 (Nat.le_trans h.1 (by decide)), floors_lm s.2.1 (Nat.le_trans h.2 (by decide)), trivial⟩
theorem state_cn (s : StateT) (h : SzS s) : cnS K49 s ≤ 1000000000000 := by
  have e : cnS K49 s = cnT (.sl K139) s.1 + (cnT (.sl K143) s.2.1 + 0) := rfl
  have h1 : s.1.length ≤ 1048576 := h.1
  have h2 : s.2.1.length ≤ 1048576 := h.2
  rw [e, items_cn, floors_cn]; omega
end Go.Abs.Gz
