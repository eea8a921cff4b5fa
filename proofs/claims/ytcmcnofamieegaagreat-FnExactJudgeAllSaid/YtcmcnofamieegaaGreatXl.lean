/- What the functions of this program answer, part l. -/
import Derived.Test.YtcmcnofamieegaaGreatXk
import Derived.Test.YtcmcnofamieegaaGreatW1
set_option linter.unusedVariables false
namespace Go.Abs.Vz
open Go Go.Abs
theorem f46 (s : StateT) (id : Int) (hz : SzS s) : Ran p 5 46 [.val true ⟨K48, s⟩, .val false ⟨K3, (id, ())⟩] ⟨[⟨K57, (lookup s id).1⟩, ⟨K4, ((lookup s id).2, ())⟩], []⟩ := go46 fun n hn => Ev.now fun fuel => by
  unfold T46; refine (call_step (f78 s hz n (by omega))).trans ?_; refine (call_step2 (f93 (viewS s, [], ()) id (small_max (viewS_len hz)) n (by omega))).trans ?_; rfl
theorem f54 (w : WorldT) (hz : SzW w) : Ran p 9 54 [.val true ⟨K33, w⟩] ⟨[⟨K48, allS w⟩], []⟩ := go54 fun n hn => by
  cases hw : worldOk w with
  | false =>
    refine Ev.now fun fuel => ?_
    unfold T54 allS; refine (call_step (f39 w hz n (by omega))).trans ?_; rw [hw]; rfl
  | true =>
    have lp : It (fun fuel (_ : Unit) => c54_5 (arun p n) fuel w) ((0 : Int), ([] : List ItemT), ([] : List FloorT)) (fun _ => some ⟨[⟨K48, joinTo (partOf w) w.2.2.1.length⟩], []⟩) := by
      refine It.run (fun i => ((i : Int), (joinTo (partOf w) i).1, (joinTo (partOf w) i).2.1)) w.2.2.1.length (fun i hi fuel u rec => ?_) (It.stop fun fuel u rec => ?_)
      · have hb := small_lt hi hz.said
        show c54_5 (arun p n) fuel w rec ((i : Int), (joinTo (partOf w) i).1, (joinTo (partOf w) i).2.1) = _
        unfold c54_5; dsimp only; rw [wrap_succ hb]; refine (bif_pos (Int.ofNat_lt.2 hi)).trans ?_; refine (bif_pos (Int.natCast_nonneg _)).trans ?_; refine (at_step hi).trans ?_; refine (call_step (f98 (joinTo (partOf w) i) (partOf w i) (joinTo_sz _ i) (hz.part i hi) (joinTo_pos _ i) ((stateOk_iff _).1 (worldOk_part hw hi)).pos n (by omega))).trans ?_; rfl
      · show c54_5 (arun p n) fuel w rec ((w.2.2.1.length : Int), (joinTo (partOf w) w.2.2.1.length).1, (joinTo (partOf w) w.2.2.1.length).2.1) = _
        unfold c54_5; refine (bif_neg (Int.lt_irrefl _)).trans ?_; rfl
    have e : allS w = joinTo (partOf w) w.2.2.1.length := by unfold allS; rw [hw]; rfl
    rw [e]
    exact Ev.eq (fun fuel => by unfold T54; refine (call_step (f39 w hz n (by omega))).trans ?_; rw [hw]; rfl) (lp.ev (i := ()) rfl)
theorem f13 (w : WorldT) (x : Int) (hz : SzW w) : Ran p 9 13 [.val true ⟨K33, w⟩, .val false ⟨K3, (x, ())⟩] ⟨[⟨K3, (known w x, ())⟩], []⟩ := go13 fun n hn => by
  cases hw : worldOk w with
  | false =>
    refine Ev.now fun fuel => ?_
    unfold T13 known; refine (call_step (f39 w hz n (by omega))).trans ?_; rw [hw]; rfl
  | true =>
    have lp : It (fun fuel (_ : Unit) => c13_5 (arun p n) fuel w x) ((0 : Int), (0 : Int)) (fun _ => oI (knownTo w x w.1.length)) := by
      refine It.run (fun i => (knownTo w x i, (i : Int))) w.1.length (fun i hi fuel u rec => ?_) (It.stop fun fuel u rec => ?_)
      · have hb := small_lt hi hz.nodes
        have hv := knownTo_le w x i
        have hl : w.1.length ≤ 1048576 := hz.nodes
        show c13_5 (arun p n) fuel w x rec (knownTo w x i, (i : Int)) = _
        unfold c13_5; dsimp only; rw [wrap_succ hb]; refine (bif_pos (Int.ofNat_lt.2 hi)).trans ?_; refine (bif_pos (Int.natCast_nonneg _)).trans ?_; refine (at_step hi).trans ?_; refine (call_step2 (f40 (gt w.1 i).state x (hz.node i hi).state n (by omega))).trans ?_; refine (call_step (f41 (lookup (gt w.1 i).state x).2 n (by omega))).trans ?_
        have hbt : 0 ≤ bitI (lookup (gt w.1 i).state x).2 ∧ bitI (lookup (gt w.1 i).state x).2 ≤ 1 := bitI_le _
        show rec (IntKind.i64.wrap (knownTo w x i + bitI (lookup (gt w.1 i).state x).2), ((i + 1 : Nat) : Int)) = _
        rw [wrap64 (by omega) (by omega)]; rfl
      · show c13_5 (arun p n) fuel w x rec (knownTo w x w.1.length, (w.1.length : Int)) = _
        unfold c13_5; refine (bif_neg (Int.lt_irrefl _)).trans ?_; rfl
    have e : known w x = knownTo w x w.1.length := by unfold known; rw [hw]; rfl
    rw [e]
    exact Ev.eq (fun fuel => by unfold T13; refine (call_step (f39 w hz n (by omega))).trans ?_; rw [hw]; rfl) (lp.ev (i := ()) rfl)
theorem f15 (w : WorldT) (x : Int) (hz : SzW w) : Ran p 9 15 [.val true ⟨K33, w⟩, .val false ⟨K3, (x, ())⟩] ⟨[⟨K3, (known w x, ())⟩], []⟩ := go15 fun n hn => by
  cases hw : worldOk w with
  | false =>
    refine Ev.now fun fuel => ?_
    unfold T15 known; refine (call_step (f45 w hz n (by omega))).trans ?_; rw [hw]; rfl
  | true =>
    have lp : It (fun fuel (_ : Unit) => c15_5 (arun p n) fuel w x) ((0 : Int), (0 : Int)) (fun _ => oI (knownTo w x w.1.length)) := by
      refine It.run (fun i => (knownTo w x i, (i : Int))) w.1.length (fun i hi fuel u rec => ?_) (It.stop fun fuel u rec => ?_)
      · have hb := small_lt hi hz.nodes
        have hv := knownTo_le w x i
        have hl : w.1.length ≤ 1048576 := hz.nodes
        show c15_5 (arun p n) fuel w x rec (knownTo w x i, (i : Int)) = _
        unfold c15_5; dsimp only; rw [wrap_succ hb]; refine (bif_pos (Int.ofNat_lt.2 hi)).trans ?_; refine (bif_pos (Int.natCast_nonneg _)).trans ?_; refine (at_step hi).trans ?_; refine (call_step2 (f46 (gt w.1 i).state x (hz.node i hi).state n (by omega))).trans ?_; show (bif (lookup (gt w.1 i).state x).2 then _ else _) = rec (knownTo w x i + bitI (lookup (gt w.1 i).state x).2, ((i + 1 : Nat) : Int))
        cases (lookup (gt w.1 i).state x).2 with
        | false => exact congrArg (fun z : Int => rec (z, ((i + 1 : Nat) : Int))) (Int.add_zero _).symm
        | true => refine (bif_tt rfl).trans ?_; rw [wrap64 (by omega) (by omega)]; rfl
      · show c15_5 (arun p n) fuel w x rec (knownTo w x w.1.length, (w.1.length : Int)) = _
        unfold c15_5; refine (bif_neg (Int.lt_irrefl _)).trans ?_; rfl
    have e : known w x = knownTo w x w.1.length := by unfold known; rw [hw]; rfl
    rw [e]
    exact Ev.eq (fun fuel => by unfold T15; refine (call_step (f45 w hz n (by omega))).trans ?_; rw [hw]; rfl) (lp.ev (i := ()) rfl)
theorem f19 (w : WorldT) (hz : SzW w) : Ran p 10 19 [.val true ⟨K33, w⟩] ⟨[⟨K4, (settled w, ())⟩], []⟩ := go19 fun n hn => by
  have lp : It (fun fuel (_ : Unit) => c19_5 (arun p n) fuel w (((viewS (allS w), ()), ()), ())) (0 : Int) (fun _ => oB (allI w.1.length fun i => sameItems (viewS (gt w.1 i).state) (viewS (allS w)))) := by
    refine it_and_true (It.allB w.1.length _ true (fun i hi fuel a rec => ?_) (It.stop fun fuel a rec => ?_))
    · have hb := small_lt hi hz.nodes
      show c19_5 (arun p n) fuel w (((viewS (allS w), ()), ()), ()) rec (i : Int) = _
      unfold c19_5; rw [wrap_succ hb]; refine (bif_pos (Int.ofNat_lt.2 hi)).trans ?_; refine (bif_pos (Int.natCast_nonneg _)).trans ?_; refine (at_step hi).trans ?_; refine (call_step (f53 (gt w.1 i).state (hz.node i hi).state n (by omega))).trans ?_; refine (call_step (f55 (viewS (gt w.1 i).state) (viewS (allS w)) (viewS_len (hz.node i hi).state) n (by omega))).trans ?_; exact fin
    · show c19_5 (arun p n) fuel w (((viewS (allS w), ()), ()), ()) rec (w.1.length : Int) = _
      unfold c19_5; refine (bif_neg (Int.lt_irrefl _)).trans ?_; rfl
  obtain ⟨N, hN⟩ := lp.all_i
  refine ⟨N, fun fuel hf => ?_⟩
  show T19 (arun p n) fuel w = oB (settled w)
  unfold T19 settled; refine (call_step (f39 w hz n (by omega))).trans ?_; refine bchk fun _ => ?_; refine (call_step (f54 w hz n (by omega))).trans ?_; refine (call_step (f53 (allS w) (allS_sz w) n (by omega))).trans ?_; exact hN fuel hf ()
theorem f30 (w u : WorldT) (hz : SzW w) (hy : SzW u) : Ran p 9 30 [.val true ⟨K33, w⟩, .val true ⟨K33, u⟩] ⟨[⟨K4, (judgeGrown w u, ())⟩], []⟩ := go30 fun n hn => by
  have ids : ∀ i, i < w.1.length → i < u.1.length → It (fun fuel rec4 => c30_11 (arun p n) fuel w u (gt (α := NodeT) w.1 i) (gt (α := NodeT) u.1 i) (i : Int) rec4) (0 : Int) (fun (rec4 : Int → Option Out) => bif allI 5 (grownId (gt w.1 i).state (gt u.1 i).state) then rec4 ((i + 1 : Nat) : Int) else oB false) := by
    intro i hi hi'
    have hib := small_lt hi hz.nodes
    refine It.all (fun k => (k : Int)) 5 _ (rA := fun (rec4 : Int → Option Out) => rec4 ((i + 1 : Nat) : Int)) (rB := fun _ => oB false) (fun k hk fuel rec4 rec => ?_) (It.stop fun fuel rec4 rec => ?_)
    · have hb : k < 9223372036854775807 := by omega
      show c30_11 (arun p n) fuel w u (gt (α := NodeT) w.1 i) (gt (α := NodeT) u.1 i) (i : Int) rec4 rec (k : Int) = _
      unfold c30_11 grownId; rw [wrap_succ hb]; refine (bif_pos (by show (k : Int) < 5; omega)).trans ?_; refine (call_step2 (f40 (gt u.1 i).state (k : Int) (hy.node i hi').state n (by omega))).trans ?_; refine (call_step (f50 (gt u.1 i).state (k : Int) (hy.node i hi').state n (by omega))).trans ?_; refine (call_step (f50 (gt w.1 i).state (k : Int) (hz.node i hi).state n (by omega))).trans ?_; refine chkP fun _ => ?_
      show (bif (lookup (gt u.1 i).state (k : Int)).2 then _ else _) = bif !((lookup (gt u.1 i).state (k : Int)).2 && _) then _ else _
      cases (lookup (gt u.1 i).state (k : Int)).2 with
      | false => rfl
      | true => refine (bif_tt rfl).trans ?_; refine (call_step (f50 (gt w.1 i).state (k : Int) (hz.node i hi).state n (by omega))).trans ?_; exact finP
    · show c30_11 (arun p n) fuel w u (gt (α := NodeT) w.1 i) (gt (α := NodeT) u.1 i) (i : Int) rec4 rec ((5 : Nat) : Int) = _
      unfold c30_11; rw [wrap_succ hib]; exact bif_neg (by show ¬ ((5 : Int) < 5); decide)
  have lp : ∃ N, ∀ fuel, N ≤ fuel → (((w.1.length : Nat) : Int) == ((u.1.length : Nat) : Int)) = true → iter (c30_4 (arun p n) fuel w u) fuel (0 : Int) = oB (allI w.1.length fun i => leqS (gt w.1 i).state (gt u.1 i).state && allI 5 (grownId (gt w.1 i).state (gt u.1 i).state)) := by
    cases he : ((w.1.length : Nat) : Int) == ((u.1.length : Nat) : Int) with
    | false => exact ⟨0, fun _ _ h => by cases h⟩
    | true =>
      have e : w.1.length = u.1.length := by have := eq_of_beq he; omega
      have lp : It (fun fuel (_ : Unit) => c30_4 (arun p n) fuel w u) (0 : Int) (fun _ => oB (allI w.1.length fun i => leqS (gt w.1 i).state (gt u.1 i).state && allI 5 (grownId (gt w.1 i).state (gt u.1 i).state))) := by
        refine it_and_true (It.allBE w.1.length _ true (fun i hi => ?_) (It.stop fun fuel a rec => ?_))
        · have hi' : i < u.1.length := by omega
          obtain ⟨N, hN⟩ := (ids i hi hi').all_i
          refine ⟨N, fun fuel hf a rec => ?_⟩
          show c30_4 (arun p n) fuel w u rec (i : Int) = _
          unfold c30_4; refine (bif_pos (Int.ofNat_lt.2 hi)).trans ?_; refine (bif_pos (Int.natCast_nonneg _)).trans ?_; refine (at_step hi).trans ?_; refine (bif_pos (Int.natCast_nonneg _)).trans ?_; refine (at_step hi').trans ?_; refine (call_step (f59 (gt w.1 i).state (gt u.1 i).state (hz.node i hi).state (hy.node i hi').state n (by omega))).trans ?_; refine chk fun _ => ?_; exact hN fuel hf rec
        · show c30_4 (arun p n) fuel w u rec (w.1.length : Int) = _
          unfold c30_4; refine (bif_neg (Int.lt_irrefl _)).trans ?_; rfl
      obtain ⟨N, hN⟩ := lp.all_i
      exact ⟨N, fun fuel hf _ => hN fuel hf ()⟩
  obtain ⟨N, hN⟩ := lp
  refine ⟨N, fun fuel hf => ?_⟩
  show T30 (arun p n) fuel w u = oB (judgeGrown w u)
  unfold T30 judgeGrown; refine (call_step (f39 w hz n (by omega))).trans ?_; refine bchk fun _ => ?_; refine (call_step (f39 u hy n (by omega))).trans ?_; refine bchk fun _ => ?_; refine bchk fun h => ?_; exact hN fuel hf h
theorem law_judgeSeen (w : WorldT) (hok : ROkay K26 w) : Ran p 10 4 [.val true ⟨K26, w⟩] trueOut := go4 fun n hn => Ev.now fun fuel => by
  obtain ⟨r, fr, gr⟩ := sz12 w 1048576 hok (by decide) (by decide)
  unfold T4; refine (call_step (fr n (by omega))).trans ?_
  by_cases hr : r < 0
  · exact bif_pos hr
  · have hs : Small K26 w := (gr (by omega)).2
    have hz : SzW w := szW_of hs
    refine (bif_neg hr).trans ?_
    refine (call_step (to14 w hs n (by omega))).trans ?_; refine (call_step (f17 w hz n (by omega))).trans ?_; refine (call_step (to14 w hs n (by omega))).trans ?_; refine (call_step (f18 w hz n (by omega))).trans ?_
    refine (bif_ff (by show (!(beqB (judgeSeen w) (judgeSeen w))) = false; rw [beqB_self]; rfl)).trans ?_
    refine (call_step (to14 w hs n (by omega))).trans ?_; refine (call_step (eq16 w hs n (by omega))).trans ?_; rfl
theorem law_settled (w : WorldT) (hok : ROkay K26 w) : Ran p 11 5 [.val true ⟨K26, w⟩] trueOut := go5 fun n hn => Ev.now fun fuel => by
  obtain ⟨r, fr, gr⟩ := sz12 w 1048576 hok (by decide) (by decide)
  unfold T5; refine (call_step (fr n (by omega))).trans ?_
  by_cases hr : r < 0
  · exact bif_pos hr
  · have hs : Small K26 w := (gr (by omega)).2
    have hz : SzW w := szW_of hs
    refine (bif_neg hr).trans ?_
    refine (call_step (to14 w hs n (by omega))).trans ?_; refine (call_step (f19 w hz n (by omega))).trans ?_; refine (call_step (to14 w hs n (by omega))).trans ?_; refine (call_step (f20 w hz n (by omega))).trans ?_
    refine (bif_ff (by show (!(beqB (settled w) (settled w))) = false; rw [beqB_self]; rfl)).trans ?_
    refine (call_step (to14 w hs n (by omega))).trans ?_; refine (call_step (eq16 w hs n (by omega))).trans ?_; rfl
theorem law_judgeHeard (w : WorldT) (hok : ROkay K26 w) : Ran p 11 6 [.val true ⟨K26, w⟩] trueOut := go6 fun n hn => Ev.now fun fuel => by
  obtain ⟨r, fr, gr⟩ := sz12 w 1048576 hok (by decide) (by decide)
  unfold T6; refine (call_step (fr n (by omega))).trans ?_
  by_cases hr : r < 0
  · exact bif_pos hr
  · have hs : Small K26 w := (gr (by omega)).2
    have hz : SzW w := szW_of hs
    refine (bif_neg hr).trans ?_
    refine (call_step (to14 w hs n (by omega))).trans ?_; refine (call_step (f21 w hz n (by omega))).trans ?_; refine (call_step (to14 w hs n (by omega))).trans ?_; refine (call_step (f22 w hz n (by omega))).trans ?_
    refine (bif_ff (by show (!(beqB (judgeHeard w) (judgeHeard w))) = false; rw [beqB_self]; rfl)).trans ?_
    refine (call_step (to14 w hs n (by omega))).trans ?_; refine (call_step (eq16 w hs n (by omega))).trans ?_; rfl
theorem law_judgeOwn (w : WorldT) (hok : ROkay K26 w) : Ran p 11 7 [.val true ⟨K26, w⟩] trueOut := go7 fun n hn => Ev.now fun fuel => by
  obtain ⟨r, fr, gr⟩ := sz12 w 1048576 hok (by decide) (by decide)
  unfold T7; refine (call_step (fr n (by omega))).trans ?_
  by_cases hr : r < 0
  · exact bif_pos hr
  · have hs : Small K26 w := (gr (by omega)).2
    have hz : SzW w := szW_of hs
    refine (bif_neg hr).trans ?_
    refine (call_step (to14 w hs n (by omega))).trans ?_; refine (call_step (f23 w hz n (by omega))).trans ?_; refine (call_step (to14 w hs n (by omega))).trans ?_; refine (call_step (f24 w hz n (by omega))).trans ?_
    refine (bif_ff (by show (!(beqB (judgeOwn w) (judgeOwn w))) = false; rw [beqB_self]; rfl)).trans ?_
    refine (call_step (to14 w hs n (by omega))).trans ?_; refine (call_step (eq16 w hs n (by omega))).trans ?_; rfl
theorem law_judgeViews (w : WorldT) (hok : ROkay K26 w) : Ran p 12 10 [.val true ⟨K26, w⟩] trueOut := go10 fun n hn => Ev.now fun fuel => by
  obtain ⟨r, fr, gr⟩ := sz12 w 1048576 hok (by decide) (by decide)
  unfold T10; refine (call_step (fr n (by omega))).trans ?_
  by_cases hr : r < 0
  · exact bif_pos hr
  · have hs : Small K26 w := (gr (by omega)).2
    have hz : SzW w := szW_of hs
    refine (bif_neg hr).trans ?_
    refine (call_step (to14 w hs n (by omega))).trans ?_; refine (call_step (f32 w hz n (by omega))).trans ?_; refine (call_step (to14 w hs n (by omega))).trans ?_; refine (call_step (f33 w hz n (by omega))).trans ?_
    refine (bif_ff (by show (!(beqB (judgeViews w) (judgeViews w))) = false; rw [beqB_self]; rfl)).trans ?_
    refine (call_step (to14 w hs n (by omega))).trans ?_; refine (call_step (eq16 w hs n (by omega))).trans ?_; rfl
theorem law_judgeAll (w : WorldT) (hok : ROkay K26 w) : Ran p 13 11 [.val true ⟨K26, w⟩] trueOut := go11 fun n hn => Ev.now fun fuel => by
  obtain ⟨r, fr, gr⟩ := sz12 w 1048576 hok (by decide) (by decide)
  unfold T11; refine (call_step (fr n (by omega))).trans ?_
  by_cases hr : r < 0
  · exact bif_pos hr
  · have hs : Small K26 w := (gr (by omega)).2
    have hz : SzW w := szW_of hs
    refine (bif_neg hr).trans ?_
    refine (call_step (to14 w hs n (by omega))).trans ?_; refine (call_step (f34 w hz n (by omega))).trans ?_; refine (call_step (to14 w hs n (by omega))).trans ?_; refine (call_step (f35 w hz n (by omega))).trans ?_
    refine (bif_ff (by show (!(beqB (judgeAll w) (judgeAll w))) = false; rw [beqB_self]; rfl)).trans ?_
    refine (call_step (to14 w hs n (by omega))).trans ?_; refine (call_step (eq16 w hs n (by omega))).trans ?_; rfl
theorem law_known (w : WorldT) (x : Int) (hok : ROkay K26 w) (hx : ROkay K3 (x, ())) : Ran p 10 3 [.val true ⟨K26, w⟩, .val false ⟨K3, (x, ())⟩] trueOut := go3 fun n hn => Ev.now fun fuel => by
  obtain ⟨r, fr, gr⟩ := sz12 w 1048576 hok (by decide) (by decide)
  unfold T3; refine (call_step (fr n (by omega))).trans ?_
  by_cases hr : r < 0
  · exact bif_pos hr
  · have hs : Small K26 w := (gr (by omega)).2
    have hz : SzW w := szW_of hs
    refine (bif_neg hr).trans ?_
    refine (call_step (to14 w hs n (by omega))).trans ?_; refine (call_step (f13 w x hz n (by omega))).trans ?_; refine (call_step (to14 w hs n (by omega))).trans ?_; refine (call_step (f15 w x hz n (by omega))).trans ?_
    refine (bif_ff (by show (!(known w x == known w x)) = false; rw [beq_self_eq_true]; rfl)).trans ?_
    refine (call_step (to14 w hs n (by omega))).trans ?_; refine (call_step (eq16 w hs n (by omega))).trans ?_; rfl
theorem law_explained (w : WorldT) (s : StateT) (hok : ROkay K26 w) (hos : ROkay K42 s) : Ran p 11 8 [.val true ⟨K26, w⟩, .val true ⟨K42, s⟩] trueOut := go8 fun n hn => Ev.now fun fuel => by
  obtain ⟨r, fr, gr⟩ := sz12 w 1048576 hok (by decide) (by decide)
  unfold T8; refine (call_step (fr n (by omega))).trans ?_
  by_cases hr : r < 0
  · exact bif_pos hr
  · have hs : Small K26 w := (gr (by omega)).2
    have hz : SzW w := szW_of hs
    refine (bif_neg hr).trans ?_
    obtain ⟨q, fq, gq⟩ := sz25 s r hos (by omega) (by have := (gr (by omega)).1; omega)
    refine (call_step (fq n (by omega))).trans ?_
    by_cases hq : q < 0
    · exact bif_pos hq
    · have hss : Small K42 s := (gq (by omega)).2
      have hy : SzS s := szS_of hss
      refine (bif_neg hq).trans ?_; refine (call_step (to14 w hs n (by omega))).trans ?_; refine (call_step (to27 s hss n (by omega))).trans ?_; refine (call_step (f26 w s hz hy n (by omega))).trans ?_; refine (call_step (to14 w hs n (by omega))).trans ?_; refine (call_step (to27 s hss n (by omega))).trans ?_; refine (call_step (f28 w s hz hy n (by omega))).trans ?_
      refine (bif_ff (by show (!(beqB (explained w s) (explained w s))) = false; rw [beqB_self]; rfl)).trans ?_
      refine (call_step (to14 w hs n (by omega))).trans ?_; refine (call_step (eq16 w hs n (by omega))).trans ?_; refine (bif_ff rfl).trans ?_; refine (call_step (to27 s hss n (by omega))).trans ?_; refine (call_step (eq29 s hss n (by omega))).trans ?_; rfl
theorem law_grown (w u : WorldT) (hok : ROkay K26 w) (hou : ROkay K26 u) : Ran p 10 9 [.val true ⟨K26, w⟩, .val true ⟨K26, u⟩] trueOut := go9 fun n hn => Ev.now fun fuel => by
  obtain ⟨r, fr, gr⟩ := sz12 w 1048576 hok (by decide) (by decide)
  unfold T9; refine (call_step (fr n (by omega))).trans ?_
  by_cases hr : r < 0
  · exact bif_pos hr
  · have hs : Small K26 w := (gr (by omega)).2
    have hz : SzW w := szW_of hs
    refine (bif_neg hr).trans ?_
    obtain ⟨q, fq, gq⟩ := sz12 u r hou (by omega) (by have := (gr (by omega)).1; omega)
    refine (call_step (fq n (by omega))).trans ?_
    by_cases hq : q < 0
    · exact bif_pos hq
    · have hsu : Small K26 u := (gq (by omega)).2
      have hy : SzW u := szW_of hsu
      refine (bif_neg hq).trans ?_; refine (call_step (to14 w hs n (by omega))).trans ?_; refine (call_step (to14 u hsu n (by omega))).trans ?_; refine (call_step (f30 w u hz hy n (by omega))).trans ?_; refine (call_step (to14 w hs n (by omega))).trans ?_; refine (call_step (to14 u hsu n (by omega))).trans ?_; refine (call_step (f31 w u hz hy n (by omega))).trans ?_
      refine (bif_ff (by show (!(beqB (judgeGrown w u) (judgeGrown w u))) = false; rw [beqB_self]; rfl)).trans ?_
      refine (call_step (to14 w hs n (by omega))).trans ?_; refine (call_step (eq16 w hs n (by omega))).trans ?_; refine (bif_ff rfl).trans ?_; refine (call_step (to14 u hsu n (by omega))).trans ?_; refine (call_step (eq16 u hsu n (by omega))).trans ?_; rfl
end Go.Abs.Vz
