/- What the functions of this program answer, part h. -/
import Derived.Test.YtcmcnofamieegaaGreatXe
import Derived.Test.YtcmcnofamieegaaGreatW2
set_option linter.unusedVariables false
namespace Go.Abs.Vz
open Go Go.Abs
theorem f53 (s : StateT) (hz : SzS s) : Ran p 4 53 [.val true ⟨K48, s⟩] ⟨[⟨K45, (viewS s, ())⟩], []⟩ := go53 fun n hn => by
  cases hs : stateOk s with
  | false =>
    refine Ev.now fun fuel => ?_
    unfold T53 viewS; refine (call_step (f68 s (small_max hz.a) (small_max hz.b) n (by omega))).trans ?_; rw [hs]; rfl
  | true =>
    have lp : It (fun fuel (_ : Unit) => c53_5 (arun p n) fuel s) ((0 : Int), ([] : List ItemT)) (fun _ => some ⟨[⟨K45, (s.1.filter (fun x : ItemT => x.2.2.1 == 0), ())⟩], []⟩) := by
      refine It.accu (α := ItemT) [] (fun i => bif (gt s.1 i).2.2.1 == 0 then [gt s.1 i] else []) s.1.length 1 (fun i hi => by cases (gt s.1 i).2.2.1 == 0 <;> simp) (fun i hi acc ha fuel a rec => ?_) (It.stop fun fuel a rec => ?_)
      · have hb := small_lt hi hz.a
        have hl : s.1.length ≤ 1048576 := hz.a
        show c53_5 (arun p n) fuel s rec ((i : Int), acc) = _
        unfold c53_5; dsimp only; rw [wrap_succ hb]; refine (bif_pos (Int.ofNat_lt.2 hi)).trans ?_; refine (bif_pos (Int.natCast_nonneg _)).trans ?_; refine (at_step hi).trans ?_
        cases hq : (gt s.1 i).2.2.1 == 0 with
        | false => refine (bif_ff rfl).trans ?_; exact (congrArg (fun l : List ItemT => rec (((i + 1 : Nat) : Int), l)) (List.append_nil acc).symm : _)
        | true => refine (bif_tt rfl).trans ?_; refine (bif_pos (Int.natCast_nonneg _)).trans ?_; refine (at_step hi).trans ?_; refine (bif_pos (by rw [hq] at ha; have : acc.length + 1 ≤ 0 + s.1.length * 1 := ha; show acc.length + 1 ≤ 4294967296; omega)).trans ?_; rfl
      · show c53_5 (arun p n) fuel s rec ((s.1.length : Int), accL (α := ItemT) s.1.length (fun i => bif (gt s.1 i).2.2.1 == 0 then [gt s.1 i] else [])) = _
        unfold c53_5; refine (bif_neg (Int.lt_irrefl _)).trans ?_; exact congrArg (fun l : List ItemT => (some ⟨[⟨K45, (l, ())⟩], []⟩ : Option Out)) ((accL_flat (fun x : ItemT => bif x.2.2.1 == 0 then [x] else []) s.1).trans (filter_flat _ _))
    have e : viewS s = s.1.filter (fun x : ItemT => x.2.2.1 == 0) := by unfold viewS; rw [hs]; rfl
    rw [e]
    exact Ev.eq (fun fuel => by unfold T53; refine (call_step (f68 s (small_max hz.a) (small_max hz.b) n (by omega))).trans ?_; rw [hs]; rfl) (lp.ev (i := ()) rfl)
theorem f78 (s : StateT) (hz : SzS s) : Ran p 4 78 [.val true ⟨K48, s⟩] ⟨[⟨K45, (viewS s, ())⟩], []⟩ := go78 fun n hn => by
  cases hs : stateOk s with
  | false =>
    refine Ev.now fun fuel => ?_
    unfold T78 viewS; refine (call_step (f73 s (small_max hz.a) (small_max hz.b) n (by omega))).trans ?_; rw [hs]; rfl
  | true =>
    have lp : It (fun fuel (_ : Unit) => c78_5 (arun p n) fuel s) ((0 : Int), ([] : List ItemT)) (fun _ => some ⟨[⟨K45, (s.1.filter (fun x : ItemT => x.2.2.1 == 0), ())⟩], []⟩) := by
      refine It.accu (α := ItemT) [] (fun i => bif (gt s.1 i).2.2.1 == 0 then [gt s.1 i] else []) s.1.length 1 (fun i hi => by cases (gt s.1 i).2.2.1 == 0 <;> simp) (fun i hi acc ha fuel a rec => ?_) (It.stop fun fuel a rec => ?_)
      · have hb := small_lt hi hz.a
        have hl : s.1.length ≤ 1048576 := hz.a
        show c78_5 (arun p n) fuel s rec ((i : Int), acc) = _
        unfold c78_5; dsimp only; rw [wrap_succ hb]; refine (bif_pos (Int.ofNat_lt.2 hi)).trans ?_; refine (bif_pos (Int.natCast_nonneg _)).trans ?_; refine (at_step hi).trans ?_
        cases hq : (gt s.1 i).2.2.1 == 0 with
        | false => refine (bif_ff rfl).trans ?_; exact (congrArg (fun l : List ItemT => rec (((i + 1 : Nat) : Int), l)) (List.append_nil acc).symm : _)
        | true => refine (bif_tt rfl).trans ?_; refine (bif_pos (by rw [hq] at ha; have : acc.length + 1 ≤ 0 + s.1.length * 1 := ha; show acc.length + 1 ≤ 4294967296; omega)).trans ?_; rfl
      · show c78_5 (arun p n) fuel s rec ((s.1.length : Int), accL (α := ItemT) s.1.length (fun i => bif (gt s.1 i).2.2.1 == 0 then [gt s.1 i] else [])) = _
        unfold c78_5; refine (bif_neg (Int.lt_irrefl _)).trans ?_; exact congrArg (fun l : List ItemT => (some ⟨[⟨K45, (l, ())⟩], []⟩ : Option Out)) ((accL_flat (fun x : ItemT => bif x.2.2.1 == 0 then [x] else []) s.1).trans (filter_flat _ _))
    have e : viewS s = s.1.filter (fun x : ItemT => x.2.2.1 == 0) := by unfold viewS; rw [hs]; rfl
    rw [e]
    exact Ev.eq (fun fuel => by unfold T78; refine (call_step (f73 s (small_max hz.a) (small_max hz.b) n (by omega))).trans ?_; rw [hs]; rfl) (lp.ev (i := ()) rfl)
theorem f101 (a b : List ItemT) (ha : a.length ≤ maxLen) : Ran p 1 101 [.val false ⟨K45, (a, ())⟩, .val false ⟨K45, (b, ())⟩] ⟨[⟨K4, (sameItems a b, ())⟩], []⟩ := go101 fun n hn => by
  have lp : ∃ N, ∀ fuel, N ≤ fuel → (((a.length : Nat) : Int) == ((b.length : Nat) : Int)) = true → iter (c101_4 (arun p n) fuel a b) fuel (0 : Int) = oB (allI a.length fun i => eqItem (gt a i) (gt b i)) := by
    cases he : ((a.length : Nat) : Int) == ((b.length : Nat) : Int) with
    | false => exact ⟨0, fun _ _ h => by cases h⟩
    | true =>
      have e : a.length = b.length := by have := eq_of_beq he; omega
      have lp : It (fun fuel (_ : Unit) => c101_4 (arun p n) fuel a b) (0 : Int) (fun _ => oB (allI a.length fun i => eqItem (gt a i) (gt b i))) := by
        refine it_and_true (It.allB a.length _ true (fun i hi fuel a' rec => ?_) (It.stop fun fuel a' rec => ?_))
        · have hb : i < 9223372036854775807 := Nat.lt_of_lt_of_le hi ha
          show c101_4 (arun p n) fuel a b rec (i : Int) = _
          unfold c101_4; rw [wrap_succ hb]; refine (bif_pos (Int.ofNat_lt.2 hi)).trans ?_; refine (bif_pos (Int.natCast_nonneg _)).trans ?_; refine (at_step hi).trans ?_; refine (bif_pos (Int.natCast_nonneg _)).trans ?_; refine (at_step (show i < b.length by omega)).trans ?_; exact fin
        · show c101_4 (arun p n) fuel a b rec (a.length : Int) = _
          unfold c101_4; refine (bif_neg (Int.lt_irrefl _)).trans ?_; rfl
      obtain ⟨N, hN⟩ := lp.all_i
      exact ⟨N, fun fuel hf _ => hN fuel hf ()⟩
  obtain ⟨N, hN⟩ := lp
  refine ⟨N, fun fuel hf => ?_⟩
  show T101 (arun p n) fuel a b = oB (sameItems a b)
  unfold T101 sameItems; refine bchk fun h => ?_; exact hN fuel hf h
theorem f99 (a b : StateT) (ha : SzS a) : Ran p 1 99 [.val true ⟨K48, a⟩, .val true ⟨K48, b⟩] ⟨[⟨K4, (sameState a b, ())⟩], []⟩ := go99 fun n hn => by
  have fl : ∃ N, ∀ fuel, N ≤ fuel → (((a.2.1.length : Nat) : Int) == ((b.2.1.length : Nat) : Int)) = true → iter (c99_9 (arun p n) fuel a b) fuel (0 : Int) = oB (allI a.2.1.length fun i => eqFloor (gt a.2.1 i) (gt b.2.1 i)) := by
    cases he : ((a.2.1.length : Nat) : Int) == ((b.2.1.length : Nat) : Int) with
    | false => exact ⟨0, fun _ _ h => by cases h⟩
    | true =>
      have e : a.2.1.length = b.2.1.length := by have := eq_of_beq he; omega
      have lp : It (fun fuel (_ : Unit) => c99_9 (arun p n) fuel a b) (0 : Int) (fun _ => oB (allI a.2.1.length fun i => eqFloor (gt a.2.1 i) (gt b.2.1 i))) := by
        refine it_and_true (It.allB a.2.1.length _ true (fun i hi fuel a' rec => ?_) (It.stop fun fuel a' rec => ?_))
        · have hb := small_lt hi ha.b
          show c99_9 (arun p n) fuel a b rec (i : Int) = _
          unfold c99_9; rw [wrap_succ hb]; refine (bif_pos (Int.ofNat_lt.2 hi)).trans ?_; refine (bif_pos (Int.natCast_nonneg _)).trans ?_; refine (at_step hi).trans ?_; refine (bif_pos (Int.natCast_nonneg _)).trans ?_; refine (at_step (show i < b.2.1.length by omega)).trans ?_; exact fin
        · show c99_9 (arun p n) fuel a b rec (a.2.1.length : Int) = _
          unfold c99_9; refine (bif_neg (Int.lt_irrefl _)).trans ?_; rfl
      obtain ⟨N, hN⟩ := lp.all_i
      exact ⟨N, fun fuel hf _ => hN fuel hf ()⟩
  have it : ∃ N, ∀ fuel, N ≤ fuel → (((a.1.length : Nat) : Int) == ((b.1.length : Nat) : Int)) = true → (((a.2.1.length : Nat) : Int) == ((b.2.1.length : Nat) : Int)) = true → iter (c99_4 (arun p n) fuel a b) fuel (0 : Int) = oB (allI a.1.length (fun i => eqItem (gt a.1 i) (gt b.1 i)) && allI a.2.1.length fun i => eqFloor (gt a.2.1 i) (gt b.2.1 i)) := by
    cases he : ((a.1.length : Nat) : Int) == ((b.1.length : Nat) : Int) with
    | false => exact ⟨0, fun _ _ h => by cases h⟩
    | true =>
      cases he2 : ((a.2.1.length : Nat) : Int) == ((b.2.1.length : Nat) : Int) with
      | false => exact ⟨0, fun _ _ _ h => by cases h⟩
      | true =>
        have e : a.1.length = b.1.length := by have := eq_of_beq he; omega
        obtain ⟨M, hM⟩ := fl
        have lp : It (fun fuel (_ : Unit) => c99_4 (arun p n) fuel a b) (0 : Int) (fun _ => oB (allI a.1.length (fun i => eqItem (gt a.1 i) (gt b.1 i)) && allI a.2.1.length fun i => eqFloor (gt a.2.1 i) (gt b.2.1 i))) := by
          refine It.allB a.1.length _ _ (fun i hi fuel a' rec => ?_) (It.stopE (T := fun fuel _ => iter (c99_9 (arun p n) fuel a b) fuel (0 : Int)) (fun fuel a' rec => ?_) ⟨M, fun fuel hf _ => hM fuel hf he2⟩)
          · have hb := small_lt hi ha.a
            show c99_4 (arun p n) fuel a b rec (i : Int) = _
            unfold c99_4; rw [wrap_succ hb]; refine (bif_pos (Int.ofNat_lt.2 hi)).trans ?_; refine (bif_pos (Int.natCast_nonneg _)).trans ?_; refine (at_step hi).trans ?_; refine (bif_pos (Int.natCast_nonneg _)).trans ?_; refine (at_step (show i < b.1.length by omega)).trans ?_; exact fin
          · show c99_4 (arun p n) fuel a b rec (a.1.length : Int) = _
            unfold c99_4; refine (bif_neg (Int.lt_irrefl _)).trans ?_; rfl
        obtain ⟨N, hN⟩ := lp.all_i
        exact ⟨N, fun fuel hf _ _ => hN fuel hf ()⟩
  obtain ⟨N, hN⟩ := it
  refine ⟨N, fun fuel hf => ?_⟩
  show T99 (arun p n) fuel a b = oB (sameState a b)
  unfold T99 sameState; refine bchk fun h => ?_; refine bchk fun h' => ?_; exact hN fuel hf h h'
theorem f55 (a b : List ItemT) (ha : a.length ≤ small) : Ran p 2 55 [.val false ⟨K45, (a, ())⟩, .val false ⟨K45, (b, ())⟩] ⟨[⟨K4, (sameItems a b, ())⟩], []⟩ := go55 fun n hn => Ev.now fun fuel => by
  unfold T55; refine (call_step (f99 (a, [], ()) (b, [], ()) ⟨ha, Nat.zero_le _⟩ n (by omega))).trans ?_; exact congrArg (fun x : Bool => (some ⟨[⟨K4, (x, ())⟩], []⟩ : Option Out)) (sameState_items a b)
theorem f57 (a b : StateT) (ha : SzS a) (hb : SzS b) : Ran p 5 57 [.val true ⟨K48, a⟩, .val true ⟨K48, b⟩] ⟨[⟨K4, (sameItems (viewS a) (viewS b), ())⟩], []⟩ := go57 fun n hn => Ev.now fun fuel => by
  unfold T57; refine (call_step (f78 a ha n (by omega))).trans ?_; refine (call_step (f78 b hb n (by omega))).trans ?_; refine (call_step (f101 (viewS a) (viewS b) (small_max (viewS_len ha)) n (by omega))).trans ?_; rfl
end Go.Abs.Vz
