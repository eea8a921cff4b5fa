/- What the functions of this program answer, part h. -/
import Derived.Test.YthgekoledembcaaXf
import Derived.Test.YthgekoledembcaaW2
set_option linter.unusedVariables false
namespace Go.Abs.Nz
open Go Go.Abs
theorem f50 (s : StateT) (hz : SzS s) : Ran p 4 50 [.val true ⟨K40, s⟩] ⟨[⟨K26, (viewS s, ())⟩], []⟩ := go50 fun n hn => by
  cases hs : stateOk s with
  | false =>
    refine Ev.now fun fuel => ?_
    unfold T50 viewS; refine (call_step (f21 s (small_max hz.a) (small_max hz.b) n (by omega))).trans ?_; rw [hs]; rfl
  | true =>
    have lp : It (fun fuel (_ : Unit) => c50_5 (arun p n) fuel s) ((0 : Int), ([] : List ItemT)) (fun _ => some ⟨[⟨K26, (s.1.filter (fun x : ItemT => x.2.2.1 == 0), ())⟩], []⟩) := by
      refine It.accu (α := ItemT) [] (fun i => bif (gt s.1 i).2.2.1 == 0 then [gt s.1 i] else []) s.1.length 1 (fun i hi => by cases (gt s.1 i).2.2.1 == 0 <;> simp) (fun i hi acc ha fuel a rec => ?_) (It.stop fun fuel a rec => ?_)
      · have hb := small_lt hi hz.a
        have hl : s.1.length ≤ 1048576 := hz.a
        show c50_5 (arun p n) fuel s rec ((i : Int), acc) = _
        unfold c50_5; dsimp only; rw [wrap_succ hb]; refine (bif_pos (Int.ofNat_lt.2 hi)).trans ?_; refine (bif_pos (Int.natCast_nonneg _)).trans ?_; refine (at_step hi).trans ?_
        cases hq : (gt s.1 i).2.2.1 == 0 with
        | false => refine (bif_ff rfl).trans ?_; exact (congrArg (fun l : List ItemT => rec (((i + 1 : Nat) : Int), l)) (List.append_nil acc).symm : _)
        | true => refine (bif_tt rfl).trans ?_; refine (bif_pos (Int.natCast_nonneg _)).trans ?_; refine (at_step hi).trans ?_; refine (bif_pos (by rw [hq] at ha; have : acc.length + 1 ≤ 0 + s.1.length * 1 := ha; show acc.length + 1 ≤ 4294967296; omega)).trans ?_; rfl
      · show c50_5 (arun p n) fuel s rec ((s.1.length : Int), accL (α := ItemT) s.1.length (fun i => bif (gt s.1 i).2.2.1 == 0 then [gt s.1 i] else [])) = _
        unfold c50_5; refine (bif_neg (Int.lt_irrefl _)).trans ?_; exact congrArg (fun l : List ItemT => (some ⟨[⟨K26, (l, ())⟩], []⟩ : Option Out)) ((accL_flat (fun x : ItemT => bif x.2.2.1 == 0 then [x] else []) s.1).trans (filter_flat _ _))
    have e : viewS s = s.1.filter (fun x : ItemT => x.2.2.1 == 0) := by unfold viewS; rw [hs]; rfl
    rw [e]
    exact Ev.eq (fun fuel => by unfold T50; refine (call_step (f21 s (small_max hz.a) (small_max hz.b) n (by omega))).trans ?_; rw [hs]; rfl) (lp.ev (i := ()) rfl)
theorem f23 (s : StateT) (hz : SzS s) : Ran p 4 23 [.val true ⟨K40, s⟩] ⟨[⟨K26, (viewS s, ())⟩], []⟩ := go23 fun n hn => by
  cases hs : stateOk s with
  | false =>
    refine Ev.now fun fuel => ?_
    unfold T23 viewS; refine (call_step (f37 s (small_max hz.a) (small_max hz.b) n (by omega))).trans ?_; rw [hs]; rfl
  | true =>
    have lp : It (fun fuel (_ : Unit) => c23_5 (arun p n) fuel s) ((0 : Int), ([] : List ItemT)) (fun _ => some ⟨[⟨K26, (s.1.filter (fun x : ItemT => x.2.2.1 == 0), ())⟩], []⟩) := by
      refine It.accu (α := ItemT) [] (fun i => bif (gt s.1 i).2.2.1 == 0 then [gt s.1 i] else []) s.1.length 1 (fun i hi => by cases (gt s.1 i).2.2.1 == 0 <;> simp) (fun i hi acc ha fuel a rec => ?_) (It.stop fun fuel a rec => ?_)
      · have hb := small_lt hi hz.a
        have hl : s.1.length ≤ 1048576 := hz.a
        show c23_5 (arun p n) fuel s rec ((i : Int), acc) = _
        unfold c23_5; dsimp only; rw [wrap_succ hb]; refine (bif_pos (Int.ofNat_lt.2 hi)).trans ?_; refine (bif_pos (Int.natCast_nonneg _)).trans ?_; refine (at_step hi).trans ?_
        cases hq : (gt s.1 i).2.2.1 == 0 with
        | false => refine (bif_ff rfl).trans ?_; exact (congrArg (fun l : List ItemT => rec (((i + 1 : Nat) : Int), l)) (List.append_nil acc).symm : _)
        | true => refine (bif_tt rfl).trans ?_; refine (bif_pos (by rw [hq] at ha; have : acc.length + 1 ≤ 0 + s.1.length * 1 := ha; show acc.length + 1 ≤ 4294967296; omega)).trans ?_; rfl
      · show c23_5 (arun p n) fuel s rec ((s.1.length : Int), accL (α := ItemT) s.1.length (fun i => bif (gt s.1 i).2.2.1 == 0 then [gt s.1 i] else [])) = _
        unfold c23_5; refine (bif_neg (Int.lt_irrefl _)).trans ?_; exact congrArg (fun l : List ItemT => (some ⟨[⟨K26, (l, ())⟩], []⟩ : Option Out)) ((accL_flat (fun x : ItemT => bif x.2.2.1 == 0 then [x] else []) s.1).trans (filter_flat _ _))
    have e : viewS s = s.1.filter (fun x : ItemT => x.2.2.1 == 0) := by unfold viewS; rw [hs]; rfl
    rw [e]
    exact Ev.eq (fun fuel => by unfold T23; refine (call_step (f37 s (small_max hz.a) (small_max hz.b) n (by omega))).trans ?_; rw [hs]; rfl) (lp.ev (i := ()) rfl)
end Go.Abs.Nz
