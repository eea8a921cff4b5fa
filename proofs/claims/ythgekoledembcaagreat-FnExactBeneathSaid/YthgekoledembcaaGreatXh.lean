/- What the functions of this program answer, part h. -/
import Derived.Test.YthgekoledembcaaGreatXf
import Derived.Test.YthgekoledembcaaGreatW2
set_option linter.unusedVariables false
namespace Go.Abs.Gz
open Go Go.Abs
theorem f167 (a b : List ItemT) (ha : a.length ≤ maxLen) : Ran p 1 167 [.val false ⟨K46, (a, ())⟩, .val false ⟨K46, (b, ())⟩] ⟨[⟨K4, (sameItems a b, ())⟩], []⟩ := go167 fun n hn => by
  have lp : ∃ N, ∀ fuel, N ≤ fuel → (((a.length : Nat) : Int) == ((b.length : Nat) : Int)) = true → iter (c167_4 (arun p n) fuel a b) fuel (0 : Int) = oB (allI a.length fun i => eqItem (gt a i) (gt b i)) := by
    cases he : ((a.length : Nat) : Int) == ((b.length : Nat) : Int) with
    | false => exact ⟨0, fun _ _ h => by cases h⟩
    | true =>
      have e : a.length = b.length := by have := eq_of_beq he; omega
      have lp : It (fun fuel (_ : Unit) => c167_4 (arun p n) fuel a b) (0 : Int) (fun _ => oB (allI a.length fun i => eqItem (gt a i) (gt b i))) := by
        refine it_and_true (It.allB a.length _ true (fun i hi fuel a' rec => ?_) (It.stop fun fuel a' rec => ?_))
        · have hb : i < 9223372036854775807 := Nat.lt_of_lt_of_le hi ha
          show c167_4 (arun p n) fuel a b rec (i : Int) = _
          unfold c167_4; rw [wrap_succ hb]; refine (bif_pos (Int.ofNat_lt.2 hi)).trans ?_; refine (bif_pos (Int.natCast_nonneg _)).trans ?_; refine (at_step hi).trans ?_; refine (bif_pos (Int.natCast_nonneg _)).trans ?_; refine (at_step (show i < b.length by omega)).trans ?_; exact fin
        · show c167_4 (arun p n) fuel a b rec (a.length : Int) = _
          unfold c167_4; refine (bif_neg (Int.lt_irrefl _)).trans ?_; rfl
      obtain ⟨N, hN⟩ := lp.all_i
      exact ⟨N, fun fuel hf _ => hN fuel hf ()⟩
  obtain ⟨N, hN⟩ := lp
  refine ⟨N, fun fuel hf => ?_⟩
  show T167 (arun p n) fuel a b = oB (sameItems a b)
  unfold T167 sameItems; refine bchk fun h => ?_; exact hN fuel hf h
theorem f103 (a b : StateT) (ha : SzS a) : Ran p 1 103 [.val true ⟨K49, a⟩, .val true ⟨K49, b⟩] ⟨[⟨K4, (sameState a b, ())⟩], []⟩ := go103 fun n hn => by
  have fl : ∃ N, ∀ fuel, N ≤ fuel → (((a.2.1.length : Nat) : Int) == ((b.2.1.length : Nat) : Int)) = true → iter (c103_9 (arun p n) fuel a b) fuel (0 : Int) = oB (allI a.2.1.length fun i => eqFloor (gt a.2.1 i) (gt b.2.1 i)) := by
    cases he : ((a.2.1.length : Nat) : Int) == ((b.2.1.length : Nat) : Int) with
    | false => exact ⟨0, fun _ _ h => by cases h⟩
    | true =>
      have e : a.2.1.length = b.2.1.length := by have := eq_of_beq he; omega
      have lp : It (fun fuel (_ : Unit) => c103_9 (arun p n) fuel a b) (0 : Int) (fun _ => oB (allI a.2.1.length fun i => eqFloor (gt a.2.1 i) (gt b.2.1 i))) := by
        refine it_and_true (It.allB a.2.1.length _ true (fun i hi fuel a' rec => ?_) (It.stop fun fuel a' rec => ?_))
        · have hb := small_lt hi ha.b
          show c103_9 (arun p n) fuel a b rec (i : Int) = _
          unfold c103_9; rw [wrap_succ hb]; refine (bif_pos (Int.ofNat_lt.2 hi)).trans ?_; refine (bif_pos (Int.natCast_nonneg _)).trans ?_; refine (at_step hi).trans ?_; refine (bif_pos (Int.natCast_nonneg _)).trans ?_; refine (at_step (show i < b.2.1.length by omega)).trans ?_; exact fin
        · show c103_9 (arun p n) fuel a b rec (a.2.1.length : Int) = _
          unfold c103_9; refine (bif_neg (Int.lt_irrefl _)).trans ?_; rfl
      obtain ⟨N, hN⟩ := lp.all_i
      exact ⟨N, fun fuel hf _ => hN fuel hf ()⟩
  have it : ∃ N, ∀ fuel, N ≤ fuel → (((a.1.length : Nat) : Int) == ((b.1.length : Nat) : Int)) = true → (((a.2.1.length : Nat) : Int) == ((b.2.1.length : Nat) : Int)) = true → iter (c103_4 (arun p n) fuel a b) fuel (0 : Int) = oB (allI a.1.length (fun i => eqItem (gt a.1 i) (gt b.1 i)) && allI a.2.1.length fun i => eqFloor (gt a.2.1 i) (gt b.2.1 i)) := by
    cases he : ((a.1.length : Nat) : Int) == ((b.1.length : Nat) : Int) with
    | false => exact ⟨0, fun _ _ h => by cases h⟩
    | true =>
      cases he2 : ((a.2.1.length : Nat) : Int) == ((b.2.1.length : Nat) : Int) with
      | false => exact ⟨0, fun _ _ _ h => by cases h⟩
      | true =>
        have e : a.1.length = b.1.length := by have := eq_of_beq he; omega
        obtain ⟨M, hM⟩ := fl
        have lp : It (fun fuel (_ : Unit) => c103_4 (arun p n) fuel a b) (0 : Int) (fun _ => oB (allI a.1.length (fun i => eqItem (gt a.1 i) (gt b.1 i)) && allI a.2.1.length fun i => eqFloor (gt a.2.1 i) (gt b.2.1 i))) := by
          refine It.allB a.1.length _ _ (fun i hi fuel a' rec => ?_) (It.stopE (T := fun fuel _ => iter (c103_9 (arun p n) fuel a b) fuel (0 : Int)) (fun fuel a' rec => ?_) ⟨M, fun fuel hf _ => hM fuel hf he2⟩)
          · have hb := small_lt hi ha.a
            show c103_4 (arun p n) fuel a b rec (i : Int) = _
            unfold c103_4; rw [wrap_succ hb]; refine (bif_pos (Int.ofNat_lt.2 hi)).trans ?_; refine (bif_pos (Int.natCast_nonneg _)).trans ?_; refine (at_step hi).trans ?_; refine (bif_pos (Int.natCast_nonneg _)).trans ?_; refine (at_step (show i < b.1.length by omega)).trans ?_; exact fin
          · show c103_4 (arun p n) fuel a b rec (a.1.length : Int) = _
            unfold c103_4; refine (bif_neg (Int.lt_irrefl _)).trans ?_; rfl
        obtain ⟨N, hN⟩ := lp.all_i
        exact ⟨N, fun fuel hf _ _ => hN fuel hf ()⟩
  obtain ⟨N, hN⟩ := it
  refine ⟨N, fun fuel hf => ?_⟩
  show T103 (arun p n) fuel a b = oB (sameState a b)
  unfold T103 sameState; refine bchk fun h => ?_; refine bchk fun h' => ?_; exact hN fuel hf h h'
end Go.Abs.Gz
