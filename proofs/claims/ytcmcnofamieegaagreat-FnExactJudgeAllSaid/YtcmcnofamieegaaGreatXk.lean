/- What the functions of this program answer, part k. -/
import Derived.Test.YtcmcnofamieegaaGreatXj
set_option linter.unusedVariables false
namespace Go.Abs.Vz
open Go Go.Abs
theorem f23 (w : WorldT) (hz : SzW w) : Ran p 10 23 [.val true ⟨K33, w⟩] ⟨[⟨K4, (judgeOwn w, ())⟩], []⟩ := go23 fun n hn => by
  have lp : ∃ N, ∀ fuel, N ≤ fuel → worldOk w = true → iter (c23_4 (arun p n) fuel w) fuel (0 : Int) = oB (allI w.1.length (ownEach w 40)) := by
    cases hw : worldOk w with
    | false => exact ⟨0, fun _ _ h => by cases h⟩
    | true =>
      have lp : It (fun fuel (_ : Unit) => c23_4 (arun p n) fuel w) (0 : Int) (fun _ => oB (allI w.1.length (ownEach w 40))) := by
        refine it_and_true (It.allB w.1.length _ true (fun i hi fuel a rec => ?_) (It.stop fun fuel a rec => ?_))
        · have hb := small_lt hi hz.nodes
          show c23_4 (arun p n) fuel w rec (i : Int) = _
          unfold c23_4 ownEach; rw [wrap_succ hb]; refine (bif_pos (Int.ofNat_lt.2 hi)).trans ?_; refine (bif_pos (Int.natCast_nonneg _)).trans ?_; refine (at_step hi).trans ?_; refine (call_step (f58 (gt w.1 i).log (hz.node i hi).list (hz.node i hi).logs n (by omega))).trans ?_; refine (call_step (f64 w (i : Int) hz n (by omega))).trans ?_; refine chk fun _ => ?_; refine (call_step (f60 w (i : Int) 40 hz n (by omega))).trans ?_; refine (call_step (f59 (saidBy w (i : Int) 40) (gt w.1 i).state (saidBy_sz _ _ _) (hz.node i hi).state n (by omega))).trans ?_; exact fin
        · show c23_4 (arun p n) fuel w rec (w.1.length : Int) = _
          unfold c23_4; refine (bif_neg (Int.lt_irrefl _)).trans ?_; rfl
      obtain ⟨N, hN⟩ := lp.all_i
      exact ⟨N, fun fuel hf _ => hN fuel hf ()⟩
  obtain ⟨N, hN⟩ := lp
  refine ⟨N, fun fuel hf => ?_⟩
  show T23 (arun p n) fuel w = oB (judgeOwn w)
  unfold T23 judgeOwn; refine (call_step (f39 w hz n (by omega))).trans ?_; refine bchk fun h => ?_; exact hN fuel hf h
theorem f24 (w : WorldT) (hz : SzW w) : Ran p 10 24 [.val true ⟨K33, w⟩] ⟨[⟨K4, (judgeOwn w, ())⟩], []⟩ := go24 fun n hn => by
  have lp : It (fun fuel (_ : Unit) => c24_2 (arun p n) fuel w) (0 : Int) (fun _ => oB (judgeOwnI w)) := by
    refine It.allB w.1.length _ _ (fun i hi fuel a rec => ?_) (It.stop fun fuel a rec => ?_)
    · have hb := small_lt hi hz.nodes
      show c24_2 (arun p n) fuel w rec (i : Int) = _
      unfold c24_2 ownEachI; rw [wrap_succ hb]; refine (bif_pos (Int.ofNat_lt.2 hi)).trans ?_; refine (bif_pos (Int.natCast_nonneg _)).trans ?_; refine (at_step hi).trans ?_; refine (call_step (f63 w (i : Int) ((w.2.2.1.length : Nat) : Int) hz n (by omega))).trans ?_; refine (call_step (f62 (saidBy w (i : Int) ((w.2.2.1.length : Nat) : Int)) (gt w.1 i).state (saidBy_sz _ _ _) (hz.node i hi).state n (by omega))).trans ?_; refine chk fun _ => ?_; refine (call_step (f61 (gt w.1 i).log (hz.node i hi).list (hz.node i hi).logs n (by omega))).trans ?_; refine (call_step (f65 w (i : Int) hz n (by omega))).trans ?_; exact fin
    · show c24_2 (arun p n) fuel w rec (w.1.length : Int) = _
      unfold c24_2; refine (bif_neg (Int.lt_irrefl _)).trans ?_; refine (call_step (f45 w hz n (by omega))).trans ?_; rfl
  rw [judgeOwn_I] at lp
  exact Ev.eq (fun fuel => by unfold T24; rfl) (lp.ev (i := ()) rfl)
theorem f32 (w : WorldT) (hz : SzW w) : Ran p 11 32 [.val true ⟨K33, w⟩] ⟨[⟨K4, (judgeViews w, ())⟩], []⟩ := go32 fun n hn => by
  have inner : ∀ i, i < w.1.length → It (fun fuel rec4 => c32_10 (arun p n) fuel w (gt (α := NodeT) w.1 i) (i : Int) rec4) (0 : Int) (fun (rec4 : Int → Option Out) => bif allI i (viewEach w i) then rec4 ((i + 1 : Nat) : Int) else oB false) := by
    intro i hi
    have hib := small_lt hi hz.nodes
    refine It.all (fun k => (k : Int)) i _ (rA := fun (rec4 : Int → Option Out) => rec4 ((i + 1 : Nat) : Int)) (rB := fun _ => oB false) (fun k hk fuel rec4 rec => ?_) (It.stop fun fuel rec4 rec => ?_)
    · have hk' : k < w.1.length := by omega
      have hb := small_lt hk' hz.nodes
      show c32_10 (arun p n) fuel w (gt (α := NodeT) w.1 i) (i : Int) rec4 rec (k : Int) = _
      unfold c32_10 viewEach; rw [wrap_succ hb]; refine (bif_pos (Int.ofNat_lt.2 hk)).trans ?_; refine (bif_pos (Int.natCast_nonneg _)).trans ?_; refine (at_step hk').trans ?_; refine (call_step (f70 w (gt w.1 i).state hz (hz.node i hi).state n (by omega))).trans ?_; refine (call_step (f70 w (gt w.1 k).state hz (hz.node k hk').state n (by omega))).trans ?_; refine (call_step (f79 (beneath w (gt w.1 i).state) (beneath w (gt w.1 k).state) (small_max (beneath_len _ _ hz.said)) n (by omega))).trans ?_
      refine chkN fun _ => ?_; refine (call_step (f53 (gt w.1 i).state (hz.node i hi).state n (by omega))).trans ?_; refine (call_step (f53 (gt w.1 k).state (hz.node k hk').state n (by omega))).trans ?_; refine (call_step (f55 (viewS (gt w.1 i).state) (viewS (gt w.1 k).state) (viewS_len (hz.node i hi).state) n (by omega))).trans ?_; exact fin
    · show c32_10 (arun p n) fuel w (gt (α := NodeT) w.1 i) (i : Int) rec4 rec (i : Int) = _
      unfold c32_10; rw [wrap_succ hib]; exact bif_neg (Int.lt_irrefl _)
  have lp : ∃ N, ∀ fuel, N ≤ fuel → worldOk w = true → iter (c32_4 (arun p n) fuel w) fuel (0 : Int) = oB (allI w.1.length fun i => explained w (gt w.1 i).state && allI i (viewEach w i)) := by
    cases hw : worldOk w with
    | false => exact ⟨0, fun _ _ h => by cases h⟩
    | true =>
      have lp : It (fun fuel (_ : Unit) => c32_4 (arun p n) fuel w) (0 : Int) (fun _ => oB (allI w.1.length fun i => explained w (gt w.1 i).state && allI i (viewEach w i))) := by
        refine it_and_true (It.allBE w.1.length _ true (fun i hi => ?_) (It.stop fun fuel a rec => ?_))
        · obtain ⟨N, hN⟩ := (inner i hi).all_i
          refine ⟨N, fun fuel hf a rec => ?_⟩
          show c32_4 (arun p n) fuel w rec (i : Int) = _
          unfold c32_4; refine (bif_pos (Int.ofNat_lt.2 hi)).trans ?_; refine (bif_pos (Int.natCast_nonneg _)).trans ?_; refine (at_step hi).trans ?_; refine (call_step (f26 w (gt w.1 i).state hz (hz.node i hi).state n (by omega))).trans ?_; refine chk fun _ => ?_; exact hN fuel hf rec
        · show c32_4 (arun p n) fuel w rec (w.1.length : Int) = _
          unfold c32_4; refine (bif_neg (Int.lt_irrefl _)).trans ?_; rfl
      obtain ⟨N, hN⟩ := lp.all_i
      exact ⟨N, fun fuel hf _ => hN fuel hf ()⟩
  obtain ⟨N, hN⟩ := lp
  refine ⟨N, fun fuel hf => ?_⟩
  show T32 (arun p n) fuel w = oB (judgeViews w)
  unfold T32 judgeViews; refine (call_step (f39 w hz n (by omega))).trans ?_; refine bchk fun h => ?_; exact hN fuel hf h
theorem f33 (w : WorldT) (hz : SzW w) : Ran p 11 33 [.val true ⟨K33, w⟩] ⟨[⟨K4, (judgeViews w, ())⟩], []⟩ := go33 fun n hn => by
  have inner : ∀ i, i < w.1.length → It (fun fuel rec4 => c33_9 (arun p n) fuel w (gt (α := NodeT) w.1 i) (i : Int) rec4) (0 : Int) (fun (rec4 : Int → Option Out) => bif allI i (viewEach w i) then rec4 ((i + 1 : Nat) : Int) else oB false) := by
    intro i hi
    have hib := small_lt hi hz.nodes
    refine It.all (fun k => (k : Int)) i _ (rA := fun (rec4 : Int → Option Out) => rec4 ((i + 1 : Nat) : Int)) (rB := fun _ => oB false) (fun k hk fuel rec4 rec => ?_) (It.stop fun fuel rec4 rec => ?_)
    · have hk' : k < w.1.length := by omega
      have hb := small_lt hk' hz.nodes
      show c33_9 (arun p n) fuel w (gt (α := NodeT) w.1 i) (i : Int) rec4 rec (k : Int) = _
      unfold c33_9 viewEach; rw [wrap_succ hb]; refine (bif_pos (lt_take (xs := w.1) hk (Nat.le_of_lt hi))).trans ?_; refine (bif_pos (Int.natCast_nonneg _)).trans ?_; refine (at_take (xs := w.1) hk (Nat.le_of_lt hi)).trans ?_; refine (call_step (f75 w (gt w.1 i).state hz (hz.node i hi).state n (by omega))).trans ?_; refine (call_step (f75 w (gt w.1 k).state hz (hz.node k hk').state n (by omega))).trans ?_; refine (call_step (f80 (beneath w (gt w.1 i).state) (beneath w (gt w.1 k).state) (small_max (beneath_len _ _ hz.said)) n (by omega))).trans ?_
      refine chkN fun _ => ?_; refine (call_step (f57 (gt w.1 i).state (gt w.1 k).state (hz.node i hi).state (hz.node k hk').state n (by omega))).trans ?_; exact fin
    · show c33_9 (arun p n) fuel w (gt (α := NodeT) w.1 i) (i : Int) rec4 rec (i : Int) = _
      unfold c33_9; rw [wrap_succ hib]; exact bif_neg (end_take (xs := w.1) (Nat.le_of_lt hi))
  have lp : ∃ N, ∀ fuel, N ≤ fuel → worldOk w = true → iter (c33_4 (arun p n) fuel w) fuel (0 : Int) = oB (allI w.1.length fun i => explained w (gt w.1 i).state && allI i (viewEach w i)) := by
    cases hw : worldOk w with
    | false => exact ⟨0, fun _ _ h => by cases h⟩
    | true =>
      have lp : It (fun fuel (_ : Unit) => c33_4 (arun p n) fuel w) (0 : Int) (fun _ => oB (allI w.1.length fun i => explained w (gt w.1 i).state && allI i (viewEach w i))) := by
        refine it_and_true (It.allBE w.1.length _ true (fun i hi => ?_) (It.stop fun fuel a rec => ?_))
        · obtain ⟨N, hN⟩ := (inner i hi).all_i
          refine ⟨N, fun fuel hf a rec => ?_⟩
          show c33_4 (arun p n) fuel w rec (i : Int) = _
          unfold c33_4; refine (bif_pos (Int.ofNat_lt.2 hi)).trans ?_; refine (bif_pos (Int.natCast_nonneg _)).trans ?_; refine (at_step hi).trans ?_; refine (call_step (f28 w (gt w.1 i).state hz (hz.node i hi).state n (by omega))).trans ?_; refine chk fun _ => ?_; refine (bif_and2 (Int.natCast_nonneg _) (Int.ofNat_le.2 (Nat.le_of_lt hi))).trans ?_; exact hN fuel hf rec
        · show c33_4 (arun p n) fuel w rec (w.1.length : Int) = _
          unfold c33_4; refine (bif_neg (Int.lt_irrefl _)).trans ?_; rfl
      obtain ⟨N, hN⟩ := lp.all_i
      exact ⟨N, fun fuel hf _ => hN fuel hf ()⟩
  obtain ⟨N, hN⟩ := lp
  refine ⟨N, fun fuel hf => ?_⟩
  show T33 (arun p n) fuel w = oB (judgeViews w)
  unfold T33 judgeViews; refine (call_step (f45 w hz n (by omega))).trans ?_; refine bchk fun h => ?_; exact hN fuel hf h
theorem f21 (w : WorldT) (hz : SzW w) : Ran p 10 21 [.val true ⟨K33, w⟩] ⟨[⟨K4, (judgeHeard w, ())⟩], []⟩ := go21 fun n hn => by
  have inner : worldOk w = true → ∀ q, q < w.1.length → It (fun fuel rec4 => c21_7 (arun p n) fuel w (q : Int) rec4) (0 : Int) (fun (rec4 : Int → Option Out) => bif allI w.1.length (fun j => heardEach w q j) then rec4 ((q + 1 : Nat) : Int) else oB false) := by
    intro hw q hq
    have hqb := small_lt hq hz.nodes
    have lq := worldOk_len hw hq
    refine It.all (fun j => (j : Int)) w.1.length _ (rA := fun (rec4 : Int → Option Out) => rec4 ((q + 1 : Nat) : Int)) (rB := fun _ => oB false) (fun j hj fuel rec4 rec => ?_) (It.stop fun fuel rec4 rec => ?_)
    · have hb := small_lt hj hz.nodes
      have lj := worldOk_len hw hj
      have g1 : j < (gt w.1 q).got.length := by omega
      have g2 : j < (gt w.1 q).acked.length := by omega
      have g3 : q < (gt w.1 j).got.length := by omega
      show c21_7 (arun p n) fuel w (q : Int) rec4 rec (j : Int) = _
      unfold c21_7 heardEach; rw [wrap_succ hb]; refine (bif_pos (Int.ofNat_lt.2 hj)).trans ?_; refine (bif_pos (Int.natCast_nonneg _)).trans ?_; refine (at_step hq).trans ?_; refine (bif_pos (Int.natCast_nonneg _)).trans ?_; refine (at_step hj).trans ?_; refine chkO fun _ => ?_
      refine (bif_pos (Int.natCast_nonneg _)).trans ?_; refine (at_step g1).trans ?_; refine (call_step (f58 (gt w.1 j).log (hz.node j hj).list (hz.node j hj).logs n (by omega))).trans ?_; refine chkP fun _ => ?_; refine (bif_pos (Int.natCast_nonneg _)).trans ?_; refine (at_step g1).trans ?_; refine (call_step (f60 w (j : Int) (gt (gt w.1 q).got j).1 hz n (by omega))).trans ?_; refine (call_step (f59 (saidBy w (j : Int) (gt (gt w.1 q).got j).1) (gt w.1 q).state (saidBy_sz _ _ _) (hz.node q hq).state n (by omega))).trans ?_; refine chk fun _ => ?_; refine (bif_pos (Int.natCast_nonneg _)).trans ?_; refine (at_step g2).trans ?_; refine (bif_pos (Int.natCast_nonneg _)).trans ?_; refine (at_step g3).trans ?_; exact finP
    · show c21_7 (arun p n) fuel w (q : Int) rec4 rec (w.1.length : Int) = _
      unfold c21_7; rw [wrap_succ hqb]; refine (bif_neg (Int.lt_irrefl _)).trans ?_; rfl
  have lp : ∃ N, ∀ fuel, N ≤ fuel → worldOk w = true → iter (c21_4 (arun p n) fuel w) fuel (0 : Int) = oB (allI w.1.length fun q => allI w.1.length fun j => heardEach w q j) := by
    cases hw : worldOk w with
    | false => exact ⟨0, fun _ _ h => by cases h⟩
    | true =>
      have lp : It (fun fuel (_ : Unit) => c21_4 (arun p n) fuel w) (0 : Int) (fun _ => oB (allI w.1.length fun q => allI w.1.length fun j => heardEach w q j)) := by
        refine it_and_true (It.allBE w.1.length _ true (fun q hq => ?_) (It.stop fun fuel a rec => ?_))
        · obtain ⟨N, hN⟩ := (inner hw q hq).all_i
          refine ⟨N, fun fuel hf a rec => ?_⟩
          show c21_4 (arun p n) fuel w rec (q : Int) = _
          unfold c21_4; refine (bif_pos (Int.ofNat_lt.2 hq)).trans ?_; exact hN fuel hf rec
        · show c21_4 (arun p n) fuel w rec (w.1.length : Int) = _
          unfold c21_4; refine (bif_neg (Int.lt_irrefl _)).trans ?_; rfl
      obtain ⟨N, hN⟩ := lp.all_i
      exact ⟨N, fun fuel hf _ => hN fuel hf ()⟩
  obtain ⟨N, hN⟩ := lp
  refine ⟨N, fun fuel hf => ?_⟩
  show T21 (arun p n) fuel w = oB (judgeHeard w)
  unfold T21 judgeHeard; refine (call_step (f39 w hz n (by omega))).trans ?_; refine bchk fun h => ?_; exact hN fuel hf h
theorem f22 (w : WorldT) (hz : SzW w) : Ran p 10 22 [.val true ⟨K33, w⟩] ⟨[⟨K4, (judgeHeard w, ())⟩], []⟩ := go22 fun n hn => by
  have inner : worldOk w = true → ∀ q, q < w.1.length → It (fun fuel rec4 => c22_7 (arun p n) fuel w (gt (α := NodeT) w.1 q) (q : Int) rec4) (0 : Int) (fun (rec4 : Int → Option Out) => bif allI w.1.length (fun j => heardEach w q j) then rec4 ((q + 1 : Nat) : Int) else oB false) := by
    intro hw q hq
    have hqb := small_lt hq hz.nodes
    have lq := worldOk_len hw hq
    refine It.all (fun j => (j : Int)) w.1.length _ (rA := fun (rec4 : Int → Option Out) => rec4 ((q + 1 : Nat) : Int)) (rB := fun _ => oB false) (fun j hj fuel rec4 rec => ?_) (It.stop fun fuel rec4 rec => ?_)
    · have hb := small_lt hj hz.nodes
      have lj := worldOk_len hw hj
      have g1 : j < (gt w.1 q).got.length := by omega
      have g2 : j < (gt w.1 q).acked.length := by omega
      have g3 : q < (gt w.1 j).got.length := by omega
      show c22_7 (arun p n) fuel w (gt (α := NodeT) w.1 q) (q : Int) rec4 rec (j : Int) = _
      unfold c22_7 heardEach; rw [wrap_succ hb]; refine (bif_pos (Int.ofNat_lt.2 hj)).trans ?_; refine (bif_pos (Int.natCast_nonneg _)).trans ?_; refine (at_step hj).trans ?_
      show (bif (j : Int) == (q : Int) then _ else _) = _
      rw [show ((j : Int) == (q : Int)) = ((q : Int) == (j : Int)) from by rw [Bool.eq_iff_iff, beq_iff_eq, beq_iff_eq]; exact eq_comm]; refine chkO fun _ => ?_
      refine (bif_pos (Int.natCast_nonneg _)).trans ?_; refine (at_step g1).trans ?_; refine (call_step (f61 (gt w.1 j).log (hz.node j hj).list (hz.node j hj).logs n (by omega))).trans ?_; refine chkP fun _ => ?_; refine (bif_pos (Int.natCast_nonneg _)).trans ?_; refine (at_step g1).trans ?_; refine (call_step (f63 w (j : Int) (gt (gt w.1 q).got j).1 hz n (by omega))).trans ?_; refine (call_step (f62 (saidBy w (j : Int) (gt (gt w.1 q).got j).1) (gt w.1 q).state (saidBy_sz _ _ _) (hz.node q hq).state n (by omega))).trans ?_; refine chk fun _ => ?_; refine (bif_pos (Int.natCast_nonneg _)).trans ?_; refine (at_step g2).trans ?_; refine (bif_pos (Int.natCast_nonneg _)).trans ?_; refine (at_step g3).trans ?_; exact finP
    · show c22_7 (arun p n) fuel w (gt (α := NodeT) w.1 q) (q : Int) rec4 rec (w.1.length : Int) = _
      unfold c22_7; rw [wrap_succ hqb]; refine (bif_neg (Int.lt_irrefl _)).trans ?_; rfl
  have lp : ∃ N, ∀ fuel, N ≤ fuel → worldOk w = true → iter (c22_4 (arun p n) fuel w) fuel (0 : Int) = oB (allI w.1.length fun q => allI w.1.length fun j => heardEach w q j) := by
    cases hw : worldOk w with
    | false => exact ⟨0, fun _ _ h => by cases h⟩
    | true =>
      have lp : It (fun fuel (_ : Unit) => c22_4 (arun p n) fuel w) (0 : Int) (fun _ => oB (allI w.1.length fun q => allI w.1.length fun j => heardEach w q j)) := by
        refine it_and_true (It.allBE w.1.length _ true (fun q hq => ?_) (It.stop fun fuel a rec => ?_))
        · obtain ⟨N, hN⟩ := (inner hw q hq).all_i
          refine ⟨N, fun fuel hf a rec => ?_⟩
          show c22_4 (arun p n) fuel w rec (q : Int) = _
          unfold c22_4; refine (bif_pos (Int.ofNat_lt.2 hq)).trans ?_; refine (bif_pos (Int.natCast_nonneg _)).trans ?_; refine (at_step hq).trans ?_; exact hN fuel hf rec
        · show c22_4 (arun p n) fuel w rec (w.1.length : Int) = _
          unfold c22_4; refine (bif_neg (Int.lt_irrefl _)).trans ?_; rfl
      obtain ⟨N, hN⟩ := lp.all_i
      exact ⟨N, fun fuel hf _ => hN fuel hf ()⟩
  obtain ⟨N, hN⟩ := lp
  refine ⟨N, fun fuel hf => ?_⟩
  show T22 (arun p n) fuel w = oB (judgeHeard w)
  unfold T22 judgeHeard; refine (call_step (f45 w hz n (by omega))).trans ?_; refine bchk fun h => ?_; exact hN fuel hf h
theorem f17 (w : WorldT) (hz : SzW w) : Ran p 9 17 [.val true ⟨K33, w⟩] ⟨[⟨K4, (judgeSeen w, ())⟩], []⟩ := go17 fun n hn => by
  have ids : worldOk w = true → ∀ q j, q < w.1.length → j < w.1.length → It (fun fuel rec7 => c17_11 (arun p n) fuel w (gt (α := NodeT) w.1 j) (q : Int) (j : Int) rec7) (0 : Int) (fun (rec7 : Int → Option Out) => bif allI 5 (seenId w q j) then rec7 ((j + 1 : Nat) : Int) else oB false) := by
    intro hw q j hq hj
    have hjb := small_lt hj hz.nodes
    have lq := worldOk_len hw hq
    refine It.all (fun i => (i : Int)) 5 _ (rA := fun (rec7 : Int → Option Out) => rec7 ((j + 1 : Nat) : Int)) (rB := fun _ => oB false) (fun i hi fuel rec7 rec => ?_) (It.stop fun fuel rec7 rec => ?_)
    · have hb : i < 9223372036854775807 := by omega
      have g1 : j < (gt w.1 q).seen.length := by omega
      have g2 : i < (gt (gt w.1 q).seen j).1.length := by have := lq.2.2.2 j hj; omega
      show c17_11 (arun p n) fuel w (gt (α := NodeT) w.1 j) (q : Int) (j : Int) rec7 rec (i : Int) = _
      unfold c17_11 seenId; rw [wrap_succ hb]; refine (bif_pos (by show (i : Int) < 5; omega)).trans ?_; refine (bif_pos (Int.natCast_nonneg _)).trans ?_; refine (at_step hq).trans ?_; refine (bif_pos (Int.natCast_nonneg _)).trans ?_; refine (at_step g1).trans ?_; refine (bif_pos (Int.natCast_nonneg _)).trans ?_; refine (at_step g2).trans ?_; refine (call_step (f50 (gt w.1 j).state (i : Int) (hz.node j hj).state n (by omega))).trans ?_; refine chkP fun _ => ?_; refine (bif_pos (Int.natCast_nonneg _)).trans ?_; refine (at_step hq).trans ?_; refine (call_step (f51 (gt w.1 q).state (i : Int) (small_max (hz.node q hq).state.b) n (by omega))).trans ?_; refine (call_step (f50 (gt w.1 j).state (i : Int) (hz.node j hj).state n (by omega))).trans ?_; exact finP
    · show c17_11 (arun p n) fuel w (gt (α := NodeT) w.1 j) (q : Int) (j : Int) rec7 rec ((5 : Nat) : Int) = _
      unfold c17_11; rw [wrap_succ hjb]; exact bif_neg (by show ¬ ((5 : Int) < 5); decide)
  have mid : worldOk w = true → ∀ q, q < w.1.length → It (fun fuel rec4 => c17_7 (arun p n) fuel w (q : Int) rec4) (0 : Int) (fun (rec4 : Int → Option Out) => bif allI w.1.length (fun j => allI 5 (seenId w q j)) then rec4 ((q + 1 : Nat) : Int) else oB false) := by
    intro hw q hq
    have hqb := small_lt hq hz.nodes
    refine It.allE (fun j => (j : Int)) w.1.length _ (rA := fun (rec4 : Int → Option Out) => rec4 ((q + 1 : Nat) : Int)) (rB := fun _ => oB false) (fun j hj => ?_) (It.stop fun fuel rec4 rec => ?_)
    · obtain ⟨N, hN⟩ := (ids hw q j hq hj).all_i
      refine ⟨N, fun fuel hf rec4 rec => ?_⟩
      show c17_7 (arun p n) fuel w (q : Int) rec4 rec (j : Int) = _
      unfold c17_7; refine (bif_pos (Int.ofNat_lt.2 hj)).trans ?_; refine (bif_pos (Int.natCast_nonneg _)).trans ?_; refine (at_step hj).trans ?_; exact hN fuel hf rec
    · show c17_7 (arun p n) fuel w (q : Int) rec4 rec (w.1.length : Int) = _
      unfold c17_7; rw [wrap_succ hqb]; refine (bif_neg (Int.lt_irrefl _)).trans ?_; rfl
  have lp : ∃ N, ∀ fuel, N ≤ fuel → worldOk w = true → iter (c17_4 (arun p n) fuel w) fuel (0 : Int) = oB (allI w.1.length fun q => allI w.1.length fun j => allI 5 fun id => seenId w q j id) := by
    cases hw : worldOk w with
    | false => exact ⟨0, fun _ _ h => by cases h⟩
    | true =>
      have lp : It (fun fuel (_ : Unit) => c17_4 (arun p n) fuel w) (0 : Int) (fun _ => oB (allI w.1.length fun q => allI w.1.length fun j => allI 5 fun id => seenId w q j id)) := by
        refine it_and_true (It.allBE w.1.length _ true (fun q hq => ?_) (It.stop fun fuel a rec => ?_))
        · obtain ⟨N, hN⟩ := (mid hw q hq).all_i
          refine ⟨N, fun fuel hf a rec => ?_⟩
          show c17_4 (arun p n) fuel w rec (q : Int) = _
          unfold c17_4; refine (bif_pos (Int.ofNat_lt.2 hq)).trans ?_; exact hN fuel hf rec
        · show c17_4 (arun p n) fuel w rec (w.1.length : Int) = _
          unfold c17_4; refine (bif_neg (Int.lt_irrefl _)).trans ?_; rfl
      obtain ⟨N, hN⟩ := lp.all_i
      exact ⟨N, fun fuel hf _ => hN fuel hf ()⟩
  obtain ⟨N, hN⟩ := lp
  refine ⟨N, fun fuel hf => ?_⟩
  show T17 (arun p n) fuel w = oB (judgeSeen w)
  unfold T17 judgeSeen; refine (call_step (f39 w hz n (by omega))).trans ?_; refine bchk fun h => ?_; exact hN fuel hf h
theorem f18 (w : WorldT) (hz : SzW w) : Ran p 9 18 [.val true ⟨K33, w⟩] ⟨[⟨K4, (judgeSeen w, ())⟩], []⟩ := go18 fun n hn => by
  rw [← judgeSeen_I]
  have fls : ∀ q j, q < w.1.length → j < w.1.length → It (fun fuel rec7 => c18_15 (arun p n) fuel w (gt (α := NodeT) w.1 q) (gt (α := NodeT) w.1 j) (q : Int) (j : Int) rec7) (0 : Int) (fun (rec7 : Int → Option Out) => bif allI (gt w.1 q).state.2.1.length (seenFl w q j) then rec7 ((j + 1 : Nat) : Int) else oB false) := by
    intro q j hq hj
    have hjb := small_lt hj hz.nodes
    refine It.all (fun i => (i : Int)) (gt w.1 q).state.2.1.length _ (rA := fun (rec7 : Int → Option Out) => rec7 ((j + 1 : Nat) : Int)) (rB := fun _ => oB false) (fun i hi fuel rec7 rec => ?_) (It.stop fun fuel rec7 rec => ?_)
    · have hb := small_lt hi (hz.node q hq).state.b
      show c18_15 (arun p n) fuel w (gt (α := NodeT) w.1 q) (gt (α := NodeT) w.1 j) (q : Int) (j : Int) rec7 rec (i : Int) = _
      unfold c18_15 seenFl; rw [wrap_succ hb]; refine (bif_pos (Int.ofNat_lt.2 hi)).trans ?_; refine (bif_pos (Int.natCast_nonneg _)).trans ?_; refine (at_step hi).trans ?_; refine (call_step (f52 (gt w.1 j).state (gt (gt w.1 q).state.2.1 i).1 (hz.node j hj).state n (by omega))).trans ?_; exact finP
    · show c18_15 (arun p n) fuel w (gt (α := NodeT) w.1 q) (gt (α := NodeT) w.1 j) (q : Int) (j : Int) rec7 rec (((gt w.1 q).state.2.1.length : Nat) : Int) = _
      unfold c18_15; rw [wrap_succ hjb]; refine (bif_neg (Int.lt_irrefl _)).trans ?_; rfl
  have ids : worldOk w = true → ∀ q j, q < w.1.length → j < w.1.length → It (fun fuel rec7 => c18_10 (arun p n) fuel w (gt (α := NodeT) w.1 q) (gt (α := NodeT) w.1 j) (q : Int) (j : Int) rec7) (0 : Int) (fun (rec7 : Int → Option Out) => bif allI 5 (seenIdI w q j) then (bif allI (gt w.1 q).state.2.1.length (seenFl w q j) then rec7 ((j + 1 : Nat) : Int) else oB false) else oB false) := by
    intro hw q j hq hj
    have lq := worldOk_len hw hq
    refine It.all (fun i => (i : Int)) 5 _ (rA := fun (rec7 : Int → Option Out) => bif allI (gt w.1 q).state.2.1.length (seenFl w q j) then rec7 ((j + 1 : Nat) : Int) else oB false) (rB := fun _ => oB false) (fun i hi fuel rec7 rec => ?_) (It.stopE (T := fun fuel rec7 => iter (c18_15 (arun p n) fuel w (gt (α := NodeT) w.1 q) (gt (α := NodeT) w.1 j) (q : Int) (j : Int) rec7) fuel (0 : Int)) (fun fuel rec7 rec => ?_) (fls q j hq hj).all_i)
    · have hb : i < 9223372036854775807 := by omega
      have g1 : j < (gt w.1 q).seen.length := by omega
      have g2 : i < (gt (gt w.1 q).seen j).1.length := by have := lq.2.2.2 j hj; omega
      show c18_10 (arun p n) fuel w (gt (α := NodeT) w.1 q) (gt (α := NodeT) w.1 j) (q : Int) (j : Int) rec7 rec (i : Int) = _
      unfold c18_10 seenIdI; rw [wrap_succ hb]; refine (bif_pos (by show (i : Int) < 5; omega)).trans ?_; refine (bif_pos (Int.natCast_nonneg _)).trans ?_; refine (at_step g1).trans ?_; refine (bif_pos (Int.natCast_nonneg _)).trans ?_; refine (at_step g2).trans ?_; refine (call_step (f52 (gt w.1 j).state (i : Int) (hz.node j hj).state n (by omega))).trans ?_; exact finP
    · show c18_10 (arun p n) fuel w (gt (α := NodeT) w.1 q) (gt (α := NodeT) w.1 j) (q : Int) (j : Int) rec7 rec ((5 : Nat) : Int) = _
      unfold c18_10; exact bif_neg (by show ¬ ((5 : Int) < 5); decide)
  have mid : worldOk w = true → ∀ q, q < w.1.length → It (fun fuel rec4 => c18_7 (arun p n) fuel w (gt (α := NodeT) w.1 q) (q : Int) rec4) (0 : Int) (fun (rec4 : Int → Option Out) => bif allI w.1.length (fun j => allI 5 (seenIdI w q j) && allI (gt w.1 q).state.2.1.length (seenFl w q j)) then rec4 ((q + 1 : Nat) : Int) else oB false) := by
    intro hw q hq
    have hqb := small_lt hq hz.nodes
    refine It.allE (fun j => (j : Int)) w.1.length _ (rA := fun (rec4 : Int → Option Out) => rec4 ((q + 1 : Nat) : Int)) (rB := fun _ => oB false) (fun j hj => ?_) (It.stop fun fuel rec4 rec => ?_)
    · obtain ⟨N, hN⟩ := (ids hw q j hq hj).all_i
      refine ⟨N, fun fuel hf rec4 rec => ?_⟩
      show c18_7 (arun p n) fuel w (gt (α := NodeT) w.1 q) (q : Int) rec4 rec (j : Int) = _
      unfold c18_7; refine (bif_pos (Int.ofNat_lt.2 hj)).trans ?_; refine (bif_pos (Int.natCast_nonneg _)).trans ?_; refine (at_step hj).trans ?_; exact (hN fuel hf rec).trans and_bif2
    · show c18_7 (arun p n) fuel w (gt (α := NodeT) w.1 q) (q : Int) rec4 rec (w.1.length : Int) = _
      unfold c18_7; rw [wrap_succ hqb]; refine (bif_neg (Int.lt_irrefl _)).trans ?_; rfl
  have lp : ∃ N, ∀ fuel, N ≤ fuel → worldOk w = true → iter (c18_4 (arun p n) fuel w) fuel (0 : Int) = oB (allI w.1.length fun q => allI w.1.length fun j => allI 5 (seenIdI w q j) && allI (gt w.1 q).state.2.1.length (seenFl w q j)) := by
    cases hw : worldOk w with
    | false => exact ⟨0, fun _ _ h => by cases h⟩
    | true =>
      have lp : It (fun fuel (_ : Unit) => c18_4 (arun p n) fuel w) (0 : Int) (fun _ => oB (allI w.1.length fun q => allI w.1.length fun j => allI 5 (seenIdI w q j) && allI (gt w.1 q).state.2.1.length (seenFl w q j))) := by
        refine it_and_true (It.allBE w.1.length _ true (fun q hq => ?_) (It.stop fun fuel a rec => ?_))
        · obtain ⟨N, hN⟩ := (mid hw q hq).all_i
          refine ⟨N, fun fuel hf a rec => ?_⟩
          show c18_4 (arun p n) fuel w rec (q : Int) = _
          unfold c18_4; refine (bif_pos (Int.ofNat_lt.2 hq)).trans ?_; refine (bif_pos (Int.natCast_nonneg _)).trans ?_; refine (at_step hq).trans ?_; exact hN fuel hf rec
        · show c18_4 (arun p n) fuel w rec (w.1.length : Int) = _
          unfold c18_4; refine (bif_neg (Int.lt_irrefl _)).trans ?_; rfl
      obtain ⟨N, hN⟩ := lp.all_i
      exact ⟨N, fun fuel hf _ => hN fuel hf ()⟩
  obtain ⟨N, hN⟩ := lp
  refine ⟨N, fun fuel hf => ?_⟩
  show T18 (arun p n) fuel w = oB (judgeSeenI w)
  unfold T18 judgeSeenI; refine (call_step (f45 w hz n (by omega))).trans ?_; refine bchk fun h => ?_; exact hN fuel hf h
theorem f34 (w : WorldT) (hz : SzW w) : Ran p 12 34 [.val true ⟨K33, w⟩] ⟨[⟨K4, (judgeAll w, ())⟩], []⟩ := go34 fun n hn => Ev.now fun fuel => by
  show T34 (arun p n) fuel w = oB (judgeAll w)
  unfold T34 judgeAll; refine (call_step (f23 w hz n (by omega))).trans ?_; refine bchkT fun _ => ?_; refine (call_step (f32 w hz n (by omega))).trans ?_; refine bchkT fun _ => ?_; refine (call_step (f21 w hz n (by omega))).trans ?_; refine bchkT fun _ => ?_; refine (call_step (f17 w hz n (by omega))).trans ?_; rfl
theorem f35 (w : WorldT) (hz : SzW w) : Ran p 12 35 [.val true ⟨K33, w⟩] ⟨[⟨K4, (judgeAll w, ())⟩], []⟩ := go35 fun n hn => Ev.now fun fuel => by
  show T35 (arun p n) fuel w = oB (judgeAll w)
  unfold T35 judgeAll; refine (call_step (f24 w hz n (by omega))).trans ?_; refine bchkT fun _ => ?_; refine (call_step (f33 w hz n (by omega))).trans ?_; refine bchkT fun _ => ?_; refine (call_step (f22 w hz n (by omega))).trans ?_; refine bchkT fun _ => ?_; refine (call_step (f18 w hz n (by omega))).trans ?_; rfl
theorem f31 (w u : WorldT) (hz : SzW w) (hy : SzW u) : Ran p 9 31 [.val true ⟨K33, w⟩, .val true ⟨K33, u⟩] ⟨[⟨K4, (judgeGrown w u, ())⟩], []⟩ := go31 fun n hn => by
  rw [← judgeGrown_I]
  have its : ∀ i, i < w.1.length → i < u.1.length → It (fun fuel rec4 => c31_15 (arun p n) fuel w u (((viewS (gt u.1 i).state, ()), ()), ()) (gt (α := NodeT) w.1 i) (i : Int) rec4) (0 : Int) (fun (rec4 : Int → Option Out) => bif allI (viewS (gt u.1 i).state).length (grownIt (gt w.1 i).state (gt u.1 i).state) then rec4 ((i + 1 : Nat) : Int) else oB false) := by
    intro i hi hi'
    have hib := small_lt hi hz.nodes
    refine It.all (fun k => (k : Int)) (viewS (gt u.1 i).state).length _ (rA := fun (rec4 : Int → Option Out) => rec4 ((i + 1 : Nat) : Int)) (rB := fun _ => oB false) (fun k hk fuel rec4 rec => ?_) (It.stop fun fuel rec4 rec => ?_)
    · have hb := small_lt hk (viewS_len (hy.node i hi').state)
      show c31_15 (arun p n) fuel w u (((viewS (gt u.1 i).state, ()), ()), ()) (gt (α := NodeT) w.1 i) (i : Int) rec4 rec (k : Int) = _
      unfold c31_15 grownIt; rw [wrap_succ hb]; refine (bif_pos (Int.ofNat_lt.2 hk)).trans ?_; refine (bif_pos (Int.natCast_nonneg _)).trans ?_; refine (at_step hk).trans ?_; refine (at_step hk).trans ?_; refine (call_step (f52 (gt w.1 i).state (gt (viewS (gt u.1 i).state) k).1 (hz.node i hi).state n (by omega))).trans ?_; exact finP
    · show c31_15 (arun p n) fuel w u (((viewS (gt u.1 i).state, ()), ()), ()) (gt (α := NodeT) w.1 i) (i : Int) rec4 rec (((viewS (gt u.1 i).state).length : Nat) : Int) = _
      unfold c31_15; rw [wrap_succ hib]; refine (bif_neg (Int.lt_irrefl _)).trans ?_; rfl
  have ids : ∀ i, i < w.1.length → i < u.1.length → It (fun fuel rec4 => c31_10 (arun p n) fuel w u (gt (α := NodeT) w.1 i) (gt (α := NodeT) u.1 i) (i : Int) rec4) (0 : Int) (fun (rec4 : Int → Option Out) => bif allI 5 (grownIdI (gt w.1 i).state (gt u.1 i).state) then (bif allI (viewS (gt u.1 i).state).length (grownIt (gt w.1 i).state (gt u.1 i).state) then rec4 ((i + 1 : Nat) : Int) else oB false) else oB false) := by
    intro i hi hi'
    refine It.all (fun k => (k : Int)) 5 _ (rA := fun (rec4 : Int → Option Out) => bif allI (viewS (gt u.1 i).state).length (grownIt (gt w.1 i).state (gt u.1 i).state) then rec4 ((i + 1 : Nat) : Int) else oB false) (rB := fun _ => oB false) (fun k hk fuel rec4 rec => ?_) (It.stopE (T := fun fuel rec4 => iter (c31_15 (arun p n) fuel w u (((viewS (gt u.1 i).state, ()), ()), ()) (gt (α := NodeT) w.1 i) (i : Int) rec4) fuel (0 : Int)) (fun fuel rec4 rec => ?_) (its i hi hi').all_i)
    · have hb : k < 9223372036854775807 := by omega
      show c31_10 (arun p n) fuel w u (gt (α := NodeT) w.1 i) (gt (α := NodeT) u.1 i) (i : Int) rec4 rec (k : Int) = _
      unfold c31_10 grownIdI; rw [wrap_succ hb]; refine (bif_pos (by show (k : Int) < 5; omega)).trans ?_; refine (call_step (f52 (gt u.1 i).state (k : Int) (hy.node i hi').state n (by omega))).trans ?_; refine (call_step (f52 (gt w.1 i).state (k : Int) (hz.node i hi).state n (by omega))).trans ?_; exact finP
    · show c31_10 (arun p n) fuel w u (gt (α := NodeT) w.1 i) (gt (α := NodeT) u.1 i) (i : Int) rec4 rec ((5 : Nat) : Int) = _
      unfold c31_10; refine (bif_neg (by show ¬ ((5 : Int) < 5); decide)).trans ?_; refine (call_step (f78 (gt u.1 i).state (hy.node i hi').state n (by omega))).trans ?_; rfl
  have lp : ∃ N, ∀ fuel, N ≤ fuel → (((w.1.length : Nat) : Int) == ((u.1.length : Nat) : Int)) = true → iter (c31_4 (arun p n) fuel w u) fuel (0 : Int) = oB (allI w.1.length fun i => leqS (gt w.1 i).state (gt u.1 i).state && (allI 5 (grownIdI (gt w.1 i).state (gt u.1 i).state) && allI (viewS (gt u.1 i).state).length (grownIt (gt w.1 i).state (gt u.1 i).state))) := by
    cases he : ((w.1.length : Nat) : Int) == ((u.1.length : Nat) : Int) with
    | false => exact ⟨0, fun _ _ h => by cases h⟩
    | true =>
      have e : w.1.length = u.1.length := by have := eq_of_beq he; omega
      have lp : It (fun fuel (_ : Unit) => c31_4 (arun p n) fuel w u) (0 : Int) (fun _ => oB (allI w.1.length fun i => leqS (gt w.1 i).state (gt u.1 i).state && (allI 5 (grownIdI (gt w.1 i).state (gt u.1 i).state) && allI (viewS (gt u.1 i).state).length (grownIt (gt w.1 i).state (gt u.1 i).state)))) := by
        refine it_and_true (It.allBE w.1.length _ true (fun i hi => ?_) (It.stop fun fuel a rec => ?_))
        · have hi' : i < u.1.length := by omega
          obtain ⟨N, hN⟩ := (ids i hi hi').all_i
          refine ⟨N, fun fuel hf a rec => ?_⟩
          show c31_4 (arun p n) fuel w u rec (i : Int) = _
          unfold c31_4; refine (bif_pos (Int.ofNat_lt.2 hi)).trans ?_; refine (bif_pos (Int.natCast_nonneg _)).trans ?_; refine (at_step hi).trans ?_; refine (bif_pos (Int.natCast_nonneg _)).trans ?_; refine (at_step hi').trans ?_; refine (call_step (f62 (gt w.1 i).state (gt u.1 i).state (hz.node i hi).state (hy.node i hi').state n (by omega))).trans ?_; refine chk fun _ => ?_; exact (hN fuel hf rec).trans and_bif2
        · show c31_4 (arun p n) fuel w u rec (w.1.length : Int) = _
          unfold c31_4; refine (bif_neg (Int.lt_irrefl _)).trans ?_; rfl
      obtain ⟨N, hN⟩ := lp.all_i
      exact ⟨N, fun fuel hf _ => hN fuel hf ()⟩
  obtain ⟨N, hN⟩ := lp
  refine ⟨N, fun fuel hf => ?_⟩
  show T31 (arun p n) fuel w u = oB (judgeGrownI w u)
  unfold T31 judgeGrownI; refine (call_step (f45 w hz n (by omega))).trans ?_; refine bchk fun _ => ?_; refine (call_step (f45 u hy n (by omega))).trans ?_; refine bchk fun _ => ?_; refine bchk fun h => ?_; exact hN fuel hf h
theorem f20 (w : WorldT) (hz : SzW w) : Ran p 10 20 [.val true ⟨K33, w⟩] ⟨[⟨K4, (settled w, ())⟩], []⟩ := go20 fun n hn => by
  rw [← settled_I]
  have lp : It (fun fuel (_ : Unit) => c20_3 (arun p n) fuel w ((allS w, ()), ())) (0 : Int) (fun _ => oB (settledI w)) := by
    refine It.allB w.1.length _ _ (fun i hi fuel a rec => ?_) (It.stop fun fuel a rec => ?_)
    · have hb := small_lt hi hz.nodes
      show c20_3 (arun p n) fuel w ((allS w, ()), ()) rec (i : Int) = _
      unfold c20_3; rw [wrap_succ hb]; refine (bif_pos (Int.ofNat_lt.2 hi)).trans ?_; refine (bif_pos (Int.natCast_nonneg _)).trans ?_; refine (at_step hi).trans ?_; refine (call_step (f57 (gt w.1 i).state (allS w) (hz.node i hi).state (allS_sz w) n (by omega))).trans ?_; exact fin
    · show c20_3 (arun p n) fuel w ((allS w, ()), ()) rec (w.1.length : Int) = _
      unfold c20_3; refine (bif_neg (Int.lt_irrefl _)).trans ?_; refine (call_step (f45 w hz n (by omega))).trans ?_; rfl
  exact Ev.eq (fun fuel => by unfold T20; refine (call_step (f56 w hz n (by omega))).trans ?_; rfl) (lp.ev (i := ()) rfl)
end Go.Abs.Vz
