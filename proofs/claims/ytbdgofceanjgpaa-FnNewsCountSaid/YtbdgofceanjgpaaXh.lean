/- What the functions of this program answer, part h. -/
import Derived.Test.YtbdgofceanjgpaaXf
import Derived.Test.YtbdgofceanjgpaaW2
set_option linter.unusedVariables false
namespace Go.Abs.Pz
open Go Go.Abs
theorem f27 (s : StateT) (hz : SzS s) : Ran p 4 27 [.val true ⟨K27, s⟩] ⟨[⟨K24, (viewS s, ())⟩], []⟩ := go27 fun n hn => by
 cases hs : stateOk s with
 | false =>
  refine Ev.now fun fuel => ?_
  unfold T27 viewS; refine (call_step (f8 s (small_max hz.a) (small_max hz.b) n (by omega))).trans ?_; rw [hs]; rfl
 | true =>
  have lp : It (fun fuel (_ : Unit) => c27_5 (arun p n) fuel s) ((0 : Int), ([] : List ItemT)) (fun _ => some ⟨[⟨K24, (s.1.filter (fun x : ItemT => x.2.2.1 == 0), ())⟩], []⟩) := by
   refine It.accu (α := ItemT) [] (fun i => bif (gt s.1 i).2.2.1 == 0 then [gt s.1 i] else []) s.1.length 1 (fun i hi => by cases (gt s.1 i).2.2.1 == 0 <;> simp) (fun i hi acc ha fuel a rec => ?_) (It.stop fun fuel a rec => ?_)
   ·have hb := small_lt hi hz.a
    have hl : s.1.length ≤ 1048576 := hz.a
    show c27_5 (arun p n) fuel s rec ((i : Int), acc) = _
    unfold c27_5; dsimp only; rw [wrap_succ hb]; refine (bif_pos (Int.ofNat_lt.2 hi)).trans ?_; refine (bif_pos (Int.natCast_nonneg _)).trans ?_; refine (at_step hi).trans ?_
    cases hq : (gt s.1 i).2.2.1 == 0 with
    | false => refine (bif_ff rfl).trans ?_; exact (congrArg (fun l : List ItemT => rec (((i + 1 : Nat) : Int), l)) (List.append_nil acc).symm : _)
    | true => refine (bif_tt rfl).trans ?_; refine (bif_pos (Int.natCast_nonneg _)).trans ?_; refine (at_step hi).trans ?_; refine (bif_pos (by rw [hq] at ha; have : acc.length + 1 ≤ 0 + s.1.length * 1 := ha; show acc.length + 1 ≤ 4294967296; omega)).trans ?_; rfl
   ·show c27_5 (arun p n) fuel s rec ((s.1.length : Int), accL (α := ItemT) s.1.length (fun i => bif (gt s.1 i).2.2.1 == 0 then [gt s.1 i] else [])) = _
    unfold c27_5; refine (bif_neg (Int.lt_irrefl _)).trans ?_; exact congrArg (fun l : List ItemT => (some ⟨[⟨K24, (l, ())⟩], []⟩ : Option Out)) ((accL_flat (fun x : ItemT => bif x.2.2.1 == 0 then [x] else []) s.1).trans (filter_flat _ _))
  have e : viewS s = s.1.filter (fun x : ItemT => x.2.2.1 == 0) := by unfold viewS; rw [hs]; rfl
  rw [e]
  exact Ev.eq (fun fuel => by unfold T27; refine (call_step (f8 s (small_max hz.a) (small_max hz.b) n (by omega))).trans ?_; rw [hs]; rfl) (lp.ev (i := ()) rfl)
theorem f10 (s : StateT) (hz : SzS s) : Ran p 4 10 [.val true ⟨K27, s⟩] ⟨[⟨K24, (viewS s, ())⟩], []⟩ := go10 fun n hn => by
 cases hs : stateOk s with
 | false =>
  refine Ev.now fun fuel => ?_
  unfold T10 viewS; refine (call_step (f14 s (small_max hz.a) (small_max hz.b) n (by omega))).trans ?_; rw [hs]; rfl
 | true =>
  have lp : It (fun fuel (_ : Unit) => c10_5 (arun p n) fuel s) ((0 : Int), ([] : List ItemT)) (fun _ => some ⟨[⟨K24, (s.1.filter (fun x : ItemT => x.2.2.1 == 0), ())⟩], []⟩) := by
   refine It.accu (α := ItemT) [] (fun i => bif (gt s.1 i).2.2.1 == 0 then [gt s.1 i] else []) s.1.length 1 (fun i hi => by cases (gt s.1 i).2.2.1 == 0 <;> simp) (fun i hi acc ha fuel a rec => ?_) (It.stop fun fuel a rec => ?_)
   ·have hb := small_lt hi hz.a
    have hl : s.1.length ≤ 1048576 := hz.a
    show c10_5 (arun p n) fuel s rec ((i : Int), acc) = _
    unfold c10_5; dsimp only; rw [wrap_succ hb]; refine (bif_pos (Int.ofNat_lt.2 hi)).trans ?_; refine (bif_pos (Int.natCast_nonneg _)).trans ?_; refine (at_step hi).trans ?_
    cases hq : (gt s.1 i).2.2.1 == 0 with
    | false => refine (bif_ff rfl).trans ?_; exact (congrArg (fun l : List ItemT => rec (((i + 1 : Nat) : Int), l)) (List.append_nil acc).symm : _)
    | true => refine (bif_tt rfl).trans ?_; refine (bif_pos (by rw [hq] at ha; have : acc.length + 1 ≤ 0 + s.1.length * 1 := ha; show acc.length + 1 ≤ 4294967296; omega)).trans ?_; rfl
   ·show c10_5 (arun p n) fuel s rec ((s.1.length : Int), accL (α := ItemT) s.1.length (fun i => bif (gt s.1 i).2.2.1 == 0 then [gt s.1 i] else [])) = _
    unfold c10_5; refine (bif_neg (Int.lt_irrefl _)).trans ?_; exact congrArg (fun l : List ItemT => (some ⟨[⟨K24, (l, ())⟩], []⟩ : Option Out)) ((accL_flat (fun x : ItemT => bif x.2.2.1 == 0 then [x] else []) s.1).trans (filter_flat _ _))
  have e : viewS s = s.1.filter (fun x : ItemT => x.2.2.1 == 0) := by unfold viewS; rw [hs]; rfl
  rw [e]
  exact Ev.eq (fun fuel => by unfold T10; refine (call_step (f14 s (small_max hz.a) (small_max hz.b) n (by omega))).trans ?_; rw [hs]; rfl) (lp.ev (i := ()) rfl)
end Go.Abs.Pz
