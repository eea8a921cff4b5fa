/- What the functions of this program answer, part j. -/
import Derived.Test.YthgbmlfjiagadaaXh
import Derived.Test.YthgbmlfjiagadaaW2
set_option linter.unusedVariables false
namespace Go.Abs.Uz
open Go Go.Abs
theorem bitI_le (b : Bool) : 0 ≤ bitI b ∧ bitI b ≤ 1 := by cases b <;> decide
theorem f135 (a b : List FloorT) (ha : a.length ≤ maxLen) : Ran p 1 135 [.val false ⟨K38, (a, ())⟩, .val false ⟨K38, (b, ())⟩] ⟨[⟨K4, (sameFloors a b, ())⟩], []⟩ := go135 fun n hn => by
  have lp : ∃ N, ∀ fuel, N ≤ fuel → (((a.length : Nat) : Int) == ((b.length : Nat) : Int)) = true → iter (c135_4 (arun p n) fuel a b) fuel (0 : Int) = oB (allI a.length fun i => eqFloor (gt a i) (gt b i)) := by
    cases he : ((a.length : Nat) : Int) == ((b.length : Nat) : Int) with
    | false => exact ⟨0, fun _ _ h => by cases h⟩
    | true =>
      have e : a.length = b.length := by have := eq_of_beq he; omega
      have lp : It (fun fuel (_ : Unit) => c135_4 (arun p n) fuel a b) (0 : Int) (fun _ => oB (allI a.length fun i => eqFloor (gt a i) (gt b i))) := by
        refine it_and_true (It.allB a.length _ true (fun i hi fuel a' rec => ?_) (It.stop fun fuel a' rec => ?_))
        · have hb : i < 9223372036854775807 := Nat.lt_of_lt_of_le hi ha
          show c135_4 (arun p n) fuel a b rec (i : Int) = _
          unfold c135_4; rw [wrap_succ hb]; refine (bif_pos (Int.ofNat_lt.2 hi)).trans ?_; refine (bif_pos (Int.natCast_nonneg _)).trans ?_; refine (at_step hi).trans ?_; refine (bif_pos (Int.natCast_nonneg _)).trans ?_; refine (at_step (show i < b.length by omega)).trans ?_; exact fin
        · show c135_4 (arun p n) fuel a b rec (a.length : Int) = _
          unfold c135_4; refine (bif_neg (Int.lt_irrefl _)).trans ?_; rfl
      obtain ⟨N, hN⟩ := lp.all_i
      exact ⟨N, fun fuel hf _ => hN fuel hf ()⟩
  obtain ⟨N, hN⟩ := lp
  refine ⟨N, fun fuel hf => ?_⟩
  show T135 (arun p n) fuel a b = oB (sameFloors a b)
  unfold T135 sameFloors; refine bchk fun h => ?_; exact hN fuel hf h
theorem f107 (a b : StateT) (ha : SzS a) : Ran p 2 107 [.val true ⟨K40, a⟩, .val true ⟨K40, b⟩] ⟨[⟨K4, (sameState a b, ())⟩], []⟩ := go107 fun n hn => Ev.now fun fuel => by
  rw [← sameState_I]
  show T107 (arun p n) fuel a b = oB (sameItems a.1 b.1 && sameFloors a.2.1 b.2.1)
  unfold T107; refine (call_step (f134 a.1 b.1 (small_max ha.a) n (by omega))).trans ?_; refine bchkT fun _ => ?_; refine (call_step (f135 a.2.1 b.2.1 (small_max ha.b) n (by omega))).trans ?_; rfl
end Go.Abs.Uz
