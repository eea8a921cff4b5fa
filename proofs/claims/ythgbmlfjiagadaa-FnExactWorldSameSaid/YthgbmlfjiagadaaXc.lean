/- What the functions of this program answer, part c. -/
import Derived.Test.YthgbmlfjiagadaaXb
import Derived.Test.YthgbmlfjiagadaaW2
set_option linter.unusedVariables false
namespace Go.Abs.Uz
open Go Go.Abs
theorem f100 (a b : List NumT) (ha : a.length ≤ maxLen) : Ran p 1 100 [.val false ⟨K109, (a, ())⟩, .val false ⟨K109, (b, ())⟩] ⟨[⟨K4, (sameN a b, ())⟩], []⟩ := go100 fun n hn => by
  by_cases he : a.length = b.length
  · have e : (((a.length : Nat) : Int) != ((b.length : Nat) : Int)) = false := by simp [he]
    have e2 : sameN a b = allI a.length (fun i => (gt a i).1 == (gt b i).1) := by unfold sameN; rw [he]; simp
    rw [e2]
    have lp : It (fun fuel (_ : Unit) => c100_4 (arun p n) fuel a b) (0 : Int) (fun _ => oB (allI a.length (fun i => (gt a i).1 == (gt b i).1))) := by
      refine it_and_true (It.allB a.length _ true (fun i hi fuel a' rec => ?_) (It.stop fun fuel a' rec => ?_))
      · have hb : i < 9223372036854775807 := Nat.lt_of_lt_of_le hi ha
        show c100_4 (arun p n) fuel a b rec (i : Int) = _
        unfold c100_4; rw [wrap_succ hb]; refine (bif_pos (Int.ofNat_lt.2 hi)).trans ?_; refine (bif_pos (Int.natCast_nonneg _)).trans ?_; refine (at_step hi).trans ?_; refine (bif_pos (Int.natCast_nonneg _)).trans ?_; refine (at_step (show i < b.length from he ▸ hi)).trans ?_; exact fin
      · show c100_4 (arun p n) fuel a b rec (a.length : Int) = _
        unfold c100_4; refine (bif_neg (Int.lt_irrefl _)).trans ?_; rfl
    exact Ev.eq (fun fuel => by unfold T100; exact bif_ff e) (lp.ev (i := ()) rfl)
  · have e : (((a.length : Nat) : Int) != ((b.length : Nat) : Int)) = true := by simp; omega
    have e2 : sameN a b = false := by unfold sameN; rw [show (((a.length : Nat) : Int) == ((b.length : Nat) : Int)) = false from by simp; omega]; rfl
    rw [e2]
    exact Ev.now fun fuel => by unfold T100; exact bif_tt e
theorem f106 (a b : List NumT) (ha : a.length ≤ maxLen) : Ran p 1 106 [.val false ⟨K109, (a, ())⟩, .val false ⟨K109, (b, ())⟩] ⟨[⟨K4, (sameN a b, ())⟩], []⟩ := go106 fun n hn => by
  by_cases he : a.length = b.length
  · have e : (((a.length : Nat) : Int) != ((b.length : Nat) : Int)) = false := by simp [he]
    have e2 : sameN a b = allI a.length (fun i => (gt a i).1 == (gt b i).1) := by unfold sameN; rw [he]; simp
    rw [e2]
    have lp : It (fun fuel (_ : Unit) => c106_4 (arun p n) fuel a b) (0 : Int) (fun _ => oB (allI a.length (fun i => (gt a i).1 == (gt b i).1))) := by
      refine it_and_true (It.allB a.length _ true (fun i hi fuel a' rec => ?_) (It.stop fun fuel a' rec => ?_))
      · have hb : i < 9223372036854775807 := Nat.lt_of_lt_of_le hi ha
        show c106_4 (arun p n) fuel a b rec (i : Int) = _
        unfold c106_4; rw [wrap_succ hb]; refine (bif_pos (Int.ofNat_lt.2 hi)).trans ?_; refine (bif_pos (Int.natCast_nonneg _)).trans ?_; refine (at_step hi).trans ?_; refine (bif_pos (Int.natCast_nonneg _)).trans ?_; refine (at_step (show i < b.length from he ▸ hi)).trans ?_; exact fin
      · show c106_4 (arun p n) fuel a b rec (a.length : Int) = _
        unfold c106_4; refine (bif_neg (Int.lt_irrefl _)).trans ?_; rfl
    exact Ev.eq (fun fuel => by unfold T106; exact bif_ff e) (lp.ev (i := ()) rfl)
  · have e : (((a.length : Nat) : Int) != ((b.length : Nat) : Int)) = true := by simp; omega
    have e2 : sameN a b = false := by unfold sameN; rw [show (((a.length : Nat) : Int) == ((b.length : Nat) : Int)) = false from by simp; omega]; rfl
    rw [e2]
    exact Ev.now fun fuel => by unfold T106; exact bif_tt e
theorem f98 (a b : TreeT) (ha : a.1.length ≤ maxLen) : Ran p 2 98 [.val true ⟨K111, a⟩, .val true ⟨K111, b⟩] ⟨[⟨K4, (sameN a.1 b.1 && a.2.1 == b.2.1, ())⟩], []⟩ := go98 fun n hn => Ev.now fun fuel => by
  unfold T98; refine (call_step (f100 a.1 b.1 ha n (by omega))).trans ?_; refine bchkT fun _ => ?_; rfl
theorem f108 (a b : TreeT) (ha : a.1.length ≤ maxLen) : Ran p 2 108 [.val true ⟨K111, a⟩, .val true ⟨K111, b⟩] ⟨[⟨K4, (sameN a.1 b.1 && a.2.1 == b.2.1, ())⟩], []⟩ := go108 fun n hn => Ev.now fun fuel => by
  unfold T108; refine (call_step (f106 a.1 b.1 ha n (by omega))).trans ?_; refine bchkT fun _ => ?_; rfl
end Go.Abs.Uz
