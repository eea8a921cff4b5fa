/- What the functions of this program answer, part l. -/
import Derived.Test.YthgekoledembcaaXj
import Derived.Test.YthgekoledembcaaXh
import Derived.Test.YthgekoledembcaaXa
import Derived.Test.YthgekoledembcaaXm
import Derived.Test.YthgekoledembcaaW2
set_option linter.unusedVariables false
namespace Go.Abs.Nz
open Go Go.Abs
theorem cutAll {α : Type} (xs : List α) (j : Nat) : (xs.take xs.length).drop ((j : Int)).toNat = xs.drop j := by rw [List.take_length, Int.toNat_natCast]
theorem f38 (s : StateT) (id : Int) (hz : SzS s) : Ran p 5 38 [.val true ⟨K40, s⟩, .val false ⟨K3, (id, ())⟩] ⟨[⟨K46, (lookup s id).1⟩, ⟨K4, ((lookup s id).2, ())⟩], []⟩ := go38 fun n hn => Ev.now fun fuel => by
  unfold T38; refine (call_step (f23 s hz n (by omega))).trans ?_; refine (call_step2 (f65 (viewS s, [], ()) id (small_max (viewS_len hz)) n (by omega))).trans ?_; rfl
theorem f39 (x y : EntryT) : Ran p 1 39 [.val true ⟨K46, x⟩, .val true ⟨K46, y⟩] ⟨[⟨K3, (newsKind x y, ())⟩], []⟩ := go39 fun n hn => Ev.now fun fuel => by
  unfold T39 newsKind vI vS
  cases x.1 != y.1 <;> cases x.2.2.2.1 != y.2.2.2.1 <;> cases (ByteArray.toList x.2.2.2.2.1 == ByteArray.toList y.2.2.2.2.1) <;> cases x.2.2.1 != y.2.2.1 <;> rfl
theorem f41 (x y : EntryT) : Ran p 1 41 [.val true ⟨K46, x⟩, .val true ⟨K46, y⟩] ⟨[⟨K3, (newsKind x y, ())⟩], []⟩ := go41 fun n hn => Ev.now fun fuel => by
  unfold T41 newsKind vI vS
  cases x.1 != y.1 <;> cases x.2.2.2.1 != y.2.2.2.1 <;> cases (ByteArray.toList x.2.2.2.2.1 == ByteArray.toList y.2.2.2.2.1) <;> cases x.2.2.1 != y.2.2.1 <;> rfl
theorem f19 (a b : StateT) (ha : SzS a) (hb : SzS b) : Ran p 6 19 [.val true ⟨K40, a⟩, .val true ⟨K40, b⟩] ⟨[⟨K29, (newsOf a b, ())⟩], []⟩ := go19 fun n hn => by
  have lp : It (fun fuel (_ : Unit) => c19_5 (arun p n) fuel a b) ((0 : Int), ([] : List NewsT)) (fun _ => some ⟨[⟨K29, (accL 5 (newsAt a b), ())⟩], []⟩) := by
    refine It.accu (α := NewsT) [] (newsAt a b) 5 1 (fun i hi => newsAt_len a b i) (fun i hi acc hl fuel u rec => ?_) (It.stop fun fuel u rec => ?_)
    · have hi2 : i < 9223372036854775807 := by omega
      have hbd : acc.length ≤ 5 → decide (acc.length + 1 ≤ bound) = true := fun h => decide_eq_true (by unfold bound; omega)
      show c19_5 (arun p n) fuel a b rec ((i : Int), acc) = rec (((i + 1 : Nat) : Int), acc ++ newsAt a b i)
      unfold c19_5 newsAt at *; dsimp only; rw [wrap_succ hi2]; refine (bif_pos (show (i : Int) < 5 by omega)).trans ?_; refine (call_step2 (f38 a (i : Int) ha n (by omega))).trans ?_; refine (call_step2 (f38 b (i : Int) hb n (by omega))).trans ?_
      generalize lookup a (i : Int) = la at *
      generalize lookup b (i : Int) = lb at *
      obtain ⟨x, d⟩ := la; obtain ⟨y, e⟩ := lb
      cases d <;> cases e
      · refine (bif_ff rfl).trans ?_; refine (bif_ff rfl).trans ?_; refine (bif_ff rfl).trans ?_; exact congrArg (fun z : List NewsT => rec (((i + 1 : Nat) : Int), z)) (List.append_nil acc).symm
      · refine (bif_ff rfl).trans ?_; refine (bif_ff rfl).trans ?_; refine (bif_tt rfl).trans ?_; refine (bif_pos (show acc.length + 1 ≤ bound by unfold bound; simp at hl; omega)).trans ?_; rfl
      · refine (bif_tt rfl).trans ?_; refine (bif_ff rfl).trans ?_; refine (bif_tt rfl).trans ?_; refine (bif_pos (show acc.length + 1 ≤ bound by unfold bound; simp at hl; omega)).trans ?_; rfl
      · refine (bif_tt rfl).trans ?_; refine (bif_tt rfl).trans ?_; refine (call_step (f39 x y n (by omega))).trans ?_
        by_cases hk : newsKind x y ≥ 0
        · rw [decide_eq_true hk] at hl ⊢; refine (bif_tt rfl).trans ?_; refine (bif_pos (show acc.length + 1 ≤ bound by unfold bound; simp at hl; omega)).trans ?_; rfl
        · rw [decide_eq_false hk]; refine (bif_ff rfl).trans ?_; exact congrArg (fun z : List NewsT => rec (((i + 1 : Nat) : Int), z)) (List.append_nil acc).symm
    · show c19_5 (arun p n) fuel a b rec (((5 : Nat) : Int), [] ++ accL 5 (newsAt a b)) = _
      unfold c19_5; exact bif_neg (show ¬ ((5 : Int) < 5) by omega)
  cases h1 : stateOk a with
  | false => refine Ev.now fun fuel => ?_; unfold T19 newsOf; refine (call_step (f37 a (small_max ha.1) (small_max ha.2) n (by omega))).trans ?_; rw [h1]; rfl
  | true =>
    cases h2 : stateOk b with
    | false => refine Ev.now fun fuel => ?_; unfold T19 newsOf; refine (call_step (f37 a (small_max ha.1) (small_max ha.2) n (by omega))).trans ?_; rw [h1]; refine (bif_ff rfl).trans ?_; refine (call_step (f37 b (small_max hb.1) (small_max hb.2) n (by omega))).trans ?_; rw [h2]; rfl
    | true =>
      have e : newsOf a b = accL 5 (newsAt a b) := by unfold newsOf; rw [h1, h2]; rfl
      rw [e]
      refine Ev.eq (fun fuel => ?_) (lp.ev (i := ()) rfl)
      unfold T19; refine (call_step (f37 a (small_max ha.1) (small_max ha.2) n (by omega))).trans ?_; rw [h1]; refine (bif_ff rfl).trans ?_; refine (call_step (f37 b (small_max hb.1) (small_max hb.2) n (by omega))).trans ?_; rw [h2]; rfl
theorem f20 (a b : StateT) (ha : SzS a) (hb : SzS b) : Ran p 6 20 [.val true ⟨K40, a⟩, .val true ⟨K40, b⟩] ⟨[⟨K29, (newsOf a b, ())⟩], []⟩ := go20 fun n hn => by
  have lp : It (fun fuel (_ : Unit) => c20_5 (arun p n) fuel a b) ((0 : Int), ([] : List NewsT)) (fun _ => some ⟨[⟨K29, (accL 5 (newsAt a b), ())⟩], []⟩) := by
    refine It.accu (α := NewsT) [] (newsAt a b) 5 1 (fun i hi => newsAt_len a b i) (fun i hi acc hl fuel u rec => ?_) (It.stop fun fuel u rec => ?_)
    · have hi2 : i < 9223372036854775807 := by omega
      show c20_5 (arun p n) fuel a b rec ((i : Int), acc) = rec (((i + 1 : Nat) : Int), acc ++ newsAt a b i)
      unfold c20_5 newsAt at *; dsimp only; rw [wrap_succ hi2]; refine (bif_pos (show (i : Int) < 5 by omega)).trans ?_; refine (call_step2 (f40 a (i : Int) ha n (by omega))).trans ?_; refine (call_step2 (f40 b (i : Int) hb n (by omega))).trans ?_
      generalize lookup a (i : Int) = la at *
      generalize lookup b (i : Int) = lb at *
      obtain ⟨x, d⟩ := la; obtain ⟨y, e⟩ := lb
      cases d <;> cases e
      · refine (bif_tt rfl).trans ?_; refine (bif_ff rfl).trans ?_; refine (bif_ff rfl).trans ?_; refine (bif_ff rfl).trans ?_; exact congrArg (fun z : List NewsT => rec (((i + 1 : Nat) : Int), z)) (List.append_nil acc).symm
      · refine (bif_tt rfl).trans ?_; refine (bif_tt rfl).trans ?_; refine (bif_pos (show acc.length + 1 ≤ bound by unfold bound; simp at hl; omega)).trans ?_; rfl
      · refine (bif_ff rfl).trans ?_; refine (bif_tt rfl).trans ?_; refine (bif_tt rfl).trans ?_; refine (bif_pos (show acc.length + 1 ≤ bound by unfold bound; simp at hl; omega)).trans ?_; rfl
      · refine (bif_ff rfl).trans ?_; refine (bif_tt rfl).trans ?_; refine (bif_ff rfl).trans ?_; refine (bif_tt rfl).trans ?_; refine (call_step (f41 x y n (by omega))).trans ?_
        by_cases hk : newsKind x y ≥ 0
        · rw [decide_eq_true hk] at hl ⊢; refine (bif_tt rfl).trans ?_; refine (call_step (f41 x y n (by omega))).trans ?_; refine (bif_pos (show acc.length + 1 ≤ bound by unfold bound; simp at hl; omega)).trans ?_; rfl
        · rw [decide_eq_false hk]; refine (bif_ff rfl).trans ?_; exact congrArg (fun z : List NewsT => rec (((i + 1 : Nat) : Int), z)) (List.append_nil acc).symm
    · show c20_5 (arun p n) fuel a b rec (((5 : Nat) : Int), [] ++ accL 5 (newsAt a b)) = _
      unfold c20_5; exact bif_neg (show ¬ ((5 : Int) < 5) by omega)
  cases h1 : stateOk a with
  | false => refine Ev.now fun fuel => ?_; unfold T20 newsOf; refine (call_step (f21 a (small_max ha.1) (small_max ha.2) n (by omega))).trans ?_; rw [h1]; rfl
  | true =>
    cases h2 : stateOk b with
    | false => refine Ev.now fun fuel => ?_; unfold T20 newsOf; refine (call_step (f21 a (small_max ha.1) (small_max ha.2) n (by omega))).trans ?_; rw [h1]; refine (bif_ff rfl).trans ?_; refine (call_step (f21 b (small_max hb.1) (small_max hb.2) n (by omega))).trans ?_; rw [h2]; rfl
    | true =>
      have e : newsOf a b = accL 5 (newsAt a b) := by unfold newsOf; rw [h1, h2]; rfl
      rw [e]
      refine Ev.eq (fun fuel => ?_) (lp.ev (i := ()) rfl)
      unfold T20; refine (call_step (f21 a (small_max ha.1) (small_max ha.2) n (by omega))).trans ?_; rw [h1]; refine (bif_ff rfl).trans ?_; refine (call_step (f21 b (small_max hb.1) (small_max hb.2) n (by omega))).trans ?_; rw [h2]; rfl

theorem items_lm (xs : List ItemT) (h : xs.length ≤ 4611686018427387904) : LmT (.sl K68) xs := ⟨h, fun i r _ => ⟨trivial, trivial, trivial, trivial, trivial, trivial, trivial⟩⟩
theorem news_lm (xs : List NewsT) (h : xs.length ≤ 4611686018427387904) : LmT (.sl K48) xs := ⟨h, fun i r _ => ⟨trivial, trivial, trivial, trivial, trivial, trivial, trivial, trivial⟩⟩
theorem items_cn (xs : List ItemT) : cnT (.sl K68) xs = 6 * ((xs.length : Nat) : Int) := sumI_const (c := cnR K68) (n := 6) (fun x => rfl) xs
theorem news_cn (xs : List NewsT) : cnT (.sl K48) xs = 7 * ((xs.length : Nat) : Int) := sumI_const (c := cnR K48) (n := 7) (fun x => rfl) xs
end Go.Abs.Nz
