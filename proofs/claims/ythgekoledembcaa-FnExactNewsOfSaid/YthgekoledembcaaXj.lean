/- What the functions of this program answer, part j. -/
import Derived.Test.YthgekoledembcaaXh
import Derived.Test.YthgekoledembcaaW2
set_option linter.unusedVariables false
namespace Go.Abs.Nz
open Go Go.Abs
theorem bitI_le (b : Bool) : 0 ≤ bitI b ∧ bitI b ≤ 1 := by cases b <;> decide
theorem f66 (s : StateT) (id : Int) (hl : s.1.length ≤ maxLen) : Ran p 1 66 [.val true ⟨K40, s⟩, .val false ⟨K3, (id, ())⟩] ⟨[⟨K46, (entryOf s id).1⟩, ⟨K4, ((entryOf s id).2, ())⟩], []⟩ := go66 fun n hn => by
  have lp : It (fun fuel (_ : Unit) => c66_2 (arun p n) fuel s id) (0 : Int) (fun _ => some ⟨[⟨K46, (entryOf s id).1⟩, ⟨K4, ((entryOf s id).2, ())⟩], []⟩) := by
    have := It.first (c := fun fuel (_ : Unit) => c66_2 (arun p n) fuel s id) (fun i => (i : Int)) s.1.length (fun i => (gt s.1 i).1 == id) (fun i _ => some ⟨[⟨K46, (gt (α := ItemT) s.1 i).2⟩, ⟨K4, (true, ())⟩], []⟩) (fun _ => some ⟨[⟨K46, zeroE⟩, ⟨K4, (false, ())⟩], []⟩) (fun i hi hp fuel a rec => ?_) (fun i hi hp => It.stop fun fuel a rec => ?_) (It.stop fun fuel a rec => ?_)
    · revert this; unfold entryOf
      cases (List.range s.1.length).find? (fun i => (gt s.1 i).1 == id) <;> exact fun h => h
    · have hb : i < 9223372036854775807 := Nat.lt_of_lt_of_le hi hl
      show c66_2 (arun p n) fuel s id rec (i : Int) = _
      unfold c66_2; rw [wrap_succ hb]; refine (bif_pos (Int.ofNat_lt.2 hi)).trans ?_; refine (bif_pos (Int.natCast_nonneg _)).trans ?_; refine (at_step hi).trans ?_; exact bif_ff hp
    · show c66_2 (arun p n) fuel s id rec (i : Int) = _
      unfold c66_2; refine (bif_pos (Int.ofNat_lt.2 hi)).trans ?_; refine (bif_pos (Int.natCast_nonneg _)).trans ?_; refine (at_step hi).trans ?_; refine (bif_tt hp).trans ?_; refine (bif_pos (Int.natCast_nonneg _)).trans ?_; refine (at_step hi).trans ?_; rfl
    · show c66_2 (arun p n) fuel s id rec (s.1.length : Int) = _
      unfold c66_2; refine (bif_neg (Int.lt_irrefl _)).trans ?_; rfl
  exact Ev.eq (fun fuel => by unfold T66; rfl) (lp.ev (i := ()) rfl)
theorem f65 (s : StateT) (id : Int) (hl : s.1.length ≤ maxLen) : Ran p 1 65 [.val true ⟨K40, s⟩, .val false ⟨K3, (id, ())⟩] ⟨[⟨K46, (entryOf s id).1⟩, ⟨K4, ((entryOf s id).2, ())⟩], []⟩ := go65 fun n hn => by
  have lp : It (fun fuel (_ : Unit) => c65_2 (arun p n) fuel s id) (0 : Int) (fun _ => some ⟨[⟨K46, (entryOf s id).1⟩, ⟨K4, ((entryOf s id).2, ())⟩], []⟩) := by
    have := It.first (c := fun fuel (_ : Unit) => c65_2 (arun p n) fuel s id) (fun i => (i : Int)) s.1.length (fun i => (gt s.1 i).1 == id) (fun i _ => some ⟨[⟨K46, (gt (α := ItemT) s.1 i).2⟩, ⟨K4, (true, ())⟩], []⟩) (fun _ => some ⟨[⟨K46, zeroE⟩, ⟨K4, (false, ())⟩], []⟩) (fun i hi hp fuel a rec => ?_) (fun i hi hp => It.stop fun fuel a rec => ?_) (It.stop fun fuel a rec => ?_)
    · revert this; unfold entryOf
      cases (List.range s.1.length).find? (fun i => (gt s.1 i).1 == id) <;> exact fun h => h
    · have hb : i < 9223372036854775807 := Nat.lt_of_lt_of_le hi hl
      show c65_2 (arun p n) fuel s id rec (i : Int) = _
      unfold c65_2; rw [wrap_succ hb]; refine (bif_pos (Int.ofNat_lt.2 hi)).trans ?_; refine (bif_pos (Int.natCast_nonneg _)).trans ?_; refine (at_step hi).trans ?_; exact bif_ff hp
    · show c65_2 (arun p n) fuel s id rec (i : Int) = _
      unfold c65_2; refine (bif_pos (Int.ofNat_lt.2 hi)).trans ?_; refine (bif_pos (Int.natCast_nonneg _)).trans ?_; refine (at_step hi).trans ?_; refine (bif_tt hp).trans ?_; rfl
    · show c65_2 (arun p n) fuel s id rec (s.1.length : Int) = _
      unfold c65_2; refine (bif_neg (Int.lt_irrefl _)).trans ?_; rfl
  exact Ev.eq (fun fuel => by unfold T65; rfl) (lp.ev (i := ()) rfl)
theorem f40 (s : StateT) (id : Int) (hz : SzS s) : Ran p 5 40 [.val true ⟨K40, s⟩, .val false ⟨K3, (id, ())⟩] ⟨[⟨K46, (lookup s id).1⟩, ⟨K4, ((lookup s id).2, ())⟩], []⟩ := go40 fun n hn => Ev.now fun fuel => by
  unfold T40; refine (call_step (f50 s hz n (by omega))).trans ?_; refine (call_step2 (f66 (viewS s, [], ()) id (small_max (viewS_len hz)) n (by omega))).trans ?_; rfl
end Go.Abs.Nz
