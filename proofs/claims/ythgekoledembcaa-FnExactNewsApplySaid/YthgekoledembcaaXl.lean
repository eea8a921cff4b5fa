/- What the functions of this program answer, part l. -/
import Derived.Test.YthgekoledembcaaXj
import Derived.Test.YthgekoledembcaaXh
import Derived.Test.YthgekoledembcaaXa
import Derived.Test.YthgekoledembcaaXm
import Derived.Test.YthgekoledembcaaW2
set_option linter.unusedVariables false
namespace Go.Abs.Nz
open Go Go.Abs
theorem cutAll {α : Type} (xs : List α) (j : Nat) : (xs.take xs.length).drop ((j : Int)).toNat = xs.drop j := by rw [List.take_length, Int.toNat_natCast]
theorem f8 (items : List ItemT) (ls : List NewsT) (h1 : items.length ≤ 2097152) (h2 : ls.length ≤ small) : Ran p 1 8 [.val false ⟨K26, (items, ())⟩, .val false ⟨K29, (ls, ())⟩] ⟨[⟨K26, (applyN items ls, ())⟩], []⟩ := go8 fun n hn => by
  have hs : small = 1048576 := rfl
  have lp : It (fun fuel (_ : Unit) => c8_3 (arun p n) fuel ls) ((0 : Int), items) (fun _ => some ⟨[⟨K26, (applyN items ls, ())⟩], []⟩) := by
    refine It.runE (fun k => ((k : Int), applyTo items ls k)) ls.length (fun k hk => ?_) (It.stop fun fuel a rec => ?_)
    · have hb : k < 9223372036854775807 := by omega
      have hl := applyTo_len items ls k
      have inner : It (fun fuel rec => c8_9 (arun p n) fuel ls (gt ls k : NewsT) (k : Int) (applyTo items ls k) rec) ((gt ls k : NewsT).1 == 1, ((0 : Int), ([] : List ItemT))) (fun rec => rec (((k + 1 : Nat) : Int), applyTo items ls (k + 1))) := by
        refine It.run (fun i => ((apTo (gt ls k : NewsT) (applyTo items ls k) i).1, ((i : Int), (apTo (gt ls k : NewsT) (applyTo items ls k) i).2))) (applyTo items ls k).length (fun i hi fuel rec3 rec => ?_) (It.stop fun fuel rec3 rec => ?_)
        · have hb2 : i < 9223372036854775807 := by omega
          have ha := apTo_len (gt ls k : NewsT) (applyTo items ls k) i
          have e : apTo (gt ls k : NewsT) (applyTo items ls k) (i + 1) = apStep (gt ls k : NewsT) (apTo (gt ls k : NewsT) (applyTo items ls k) i) (gt (applyTo items ls k) i) := rfl
          rw [e]
          generalize apTo (gt ls k : NewsT) (applyTo items ls k) i = s at *
          obtain ⟨d, acc⟩ := s
          dsimp only at ha
          show c8_9 (arun p n) fuel ls (gt ls k : NewsT) (k : Int) (applyTo items ls k) rec3 rec (d, ((i : Int), acc)) = rec (d || decide ((gt (applyTo items ls k) i).1 ≥ (gt ls k : NewsT).2.1), (((i + 1 : Nat) : Int), acc ++ ((bif !d && decide ((gt (applyTo items ls k) i).1 ≥ (gt ls k : NewsT).2.1) then [(gt ls k : NewsT).2] else []) ++ (bif (gt (applyTo items ls k) i).1 != (gt ls k : NewsT).2.1 then [gt (applyTo items ls k) i] else []))))
          unfold c8_9; dsimp only; rw [wrap_succ hb2]; refine (bif_pos (Int.ofNat_lt.2 hi)).trans ?_
          have tail : ∀ (d' : Bool) (a' : List ItemT), a'.length ≤ 2 * i + 1 → (bif (gt (applyTo items ls k) i).1 != (gt ls k : NewsT).2.1 then (bif decide (0 ≤ (i : Int)) then ((at? (applyTo items ls k) ((i : Int)).toNat).bind fun _ => ((at? (applyTo items ls k) ((i : Int)).toNat).bind fun r => (bif decide (List.length a' + List.length ([r] : List (Row K68)) ≤ bound) then (rec (d', (((i + 1 : Nat) : Int), (@vL K68 a' ++ @vL K68 ([r] : List (Row K68)))))) else none))) else none) else (rec (d', (((i + 1 : Nat) : Int), a')))) = rec (d', (((i + 1 : Nat) : Int), a' ++ (bif (gt (applyTo items ls k) i).1 != (gt ls k : NewsT).2.1 then [gt (applyTo items ls k) i] else []))) := by
            intro d' a' hl'
            cases (gt (applyTo items ls k) i).1 != (gt ls k : NewsT).2.1 with
            | true => refine (bif_tt rfl).trans ?_; refine (bif_pos (Int.natCast_nonneg _)).trans ?_; refine (at_step hi).trans ?_; refine (at_step hi).trans ?_; refine (bif_pos (show List.length a' + 1 ≤ bound by unfold bound; omega)).trans ?_; rfl
            | false => refine (bif_ff rfl).trans ?_; rw [show (bif false then [gt (applyTo items ls k) i] else ([] : List ItemT)) = [] from rfl, List.append_nil]
          cases d with
          | true =>
            refine (bif_ff rfl).trans ?_; refine (bif_pos (Int.natCast_nonneg _)).trans ?_; refine (at_step hi).trans ?_; refine (at_step hi).trans ?_
            exact (tail true acc (by omega)).trans (by rfl)
          | false =>
            refine (bif_tt rfl).trans ?_; refine (bif_pos (Int.natCast_nonneg _)).trans ?_; refine (at_step hi).trans ?_; refine (at_step hi).trans ?_
            by_cases hge : (gt (applyTo items ls k) i).1 ≥ (gt ls k : NewsT).2.1
            · rw [decide_eq_true hge]
              refine (bif_tt rfl).trans ?_; refine (bif_pos (show List.length acc + 1 ≤ bound by unfold bound; omega)).trans ?_; refine (bif_pos (Int.natCast_nonneg _)).trans ?_; refine (at_step hi).trans ?_; refine (at_step hi).trans ?_
              refine (tail true (acc ++ [(gt ls k : NewsT).2]) (by rw [List.length_append, List.length_singleton]; omega)).trans ?_
              rw [List.append_assoc]; rfl
            · rw [decide_eq_false hge]
              refine (bif_ff rfl).trans ?_; refine (bif_pos (Int.natCast_nonneg _)).trans ?_; refine (at_step hi).trans ?_; refine (at_step hi).trans ?_
              exact (tail false acc (by omega)).trans (by rfl)
        · have ha := apTo_len (gt ls k : NewsT) (applyTo items ls k) (applyTo items ls k).length
          have he : applyTo items ls (k + 1) = (apTo (gt ls k : NewsT) (applyTo items ls k) (applyTo items ls k).length).2 ++ (bif (apTo (gt ls k : NewsT) (applyTo items ls k) (applyTo items ls k).length).1 then [] else [(gt ls k : NewsT).2]) := (ap_eq (gt ls k : NewsT) (applyTo items ls k)).symm
          rw [he]
          generalize apTo (gt ls k : NewsT) (applyTo items ls k) (applyTo items ls k).length = s at *
          obtain ⟨d, acc⟩ := s
          dsimp only at ha
          show c8_9 (arun p n) fuel ls (gt ls k : NewsT) (k : Int) (applyTo items ls k) rec3 rec (d, (((applyTo items ls k).length : Int), acc)) = rec3 (((k + 1 : Nat) : Int), acc ++ (bif d then [] else [(gt ls k : NewsT).2]))
          unfold c8_9; dsimp only; rw [wrap_succ hb]; refine (bif_neg (Int.lt_irrefl _)).trans ?_
          cases d with
          | true => refine (bif_ff rfl).trans ?_; rw [show (bif true then ([] : List ItemT) else [(gt ls k : NewsT).2]) = [] from rfl, List.append_nil]
          | false => refine (bif_tt rfl).trans ?_; refine (bif_pos (show List.length acc + 1 ≤ bound by unfold bound; omega)).trans ?_; rfl
      obtain ⟨N, hN⟩ := inner.all_i
      refine ⟨N, fun fuel hf a rec => ?_⟩
      show c8_3 (arun p n) fuel ls rec ((k : Int), applyTo items ls k) = rec (((k + 1 : Nat) : Int), applyTo items ls (k + 1))
      unfold c8_3; refine (bif_pos (Int.ofNat_lt.2 hk)).trans ?_; refine (bif_pos (Int.natCast_nonneg _)).trans ?_; refine (at_step hk).trans ?_; exact hN fuel hf rec
    · show c8_3 (arun p n) fuel ls rec ((ls.length : Int), applyTo items ls ls.length) = _
      unfold c8_3; refine (bif_neg (Int.lt_irrefl _)).trans ?_; rfl
  refine Ev.eq (fun fuel => ?_) (lp.ev (i := ()) rfl)
  unfold T8; exact bif_pos (show 0 + items.length ≤ bound by unfold bound; omega)
theorem f11 (items : List ItemT) (ls : List NewsT) (h1 : items.length ≤ 2097152) (h2 : ls.length ≤ small) : Ran p 1 11 [.val false ⟨K26, (items, ())⟩, .val false ⟨K29, (ls, ())⟩] ⟨[⟨K26, (applyN items ls, ())⟩], []⟩ := go11 fun n hn => by
  have hs : small = 1048576 := rfl
  have lp : It (fun fuel (_ : Unit) => c11_3 (arun p n) fuel ls) ((0 : Int), items) (fun _ => some ⟨[⟨K26, (applyN items ls, ())⟩], []⟩) := by
    refine It.runE (fun k => ((k : Int), applyTo items ls k)) ls.length (fun k hk => ?_) (It.stop fun fuel a rec => ?_)
    · have hb : k < 9223372036854775807 := by omega
      have hl := applyTo_len items ls k
      have e : applyTo items ls (k + 1) = apply1 (applyTo items ls k) (gt ls k : NewsT) := rfl
      rw [e]
      generalize applyTo items ls k = out at *
      have hj := apAt_le out (gt ls k : NewsT).2.1
      have rest : ∀ pre : List ItemT, pre.length ≤ out.length + 1 → It (fun fuel rec => c11_12 (arun p n) fuel ls (gt ls k : NewsT) (k : Int) out ((apAt out (gt ls k : NewsT).2.1 : Nat) : Int) rec) ((0 : Int), pre) (fun rec => rec (((k + 1 : Nat) : Int), pre ++ (out.drop (apAt out (gt ls k : NewsT).2.1)).filter (fun y => y.1 != (gt ls k : NewsT).2.1))) := by
        intro pre hp
        have hd : @List.drop (Row K68) (((apAt out (gt ls k : NewsT).2.1 : Nat) : Int)).toNat (@List.take (Row K68) (@List.length (Row K68) out) out) = out.drop (apAt out (gt ls k : NewsT).2.1) := cutAll (α := Row K68) out _
        have hdl : (out.drop (apAt out (gt ls k : NewsT).2.1)).length ≤ out.length := by rw [List.length_drop]; omega
        generalize hO : out.drop (apAt out (gt ls k : NewsT).2.1) = o at *
        refine It.accu (α := ItemT) pre (fun i => bif (gt o i).1 != (gt ls k : NewsT).2.1 then [gt o i] else []) o.length 1 (fun i hi => by cases (gt o i).1 != (gt ls k : NewsT).2.1 <;> simp) (fun i hi acc ha fuel rec3 rec => ?_) (It.stop fun fuel rec3 rec => ?_)
        · have hb2 : i < 9223372036854775807 := by omega
          show c11_12 (arun p n) fuel ls (gt ls k : NewsT) (k : Int) out ((apAt out (gt ls k : NewsT).2.1 : Nat) : Int) rec3 rec ((i : Int), acc) = _
          unfold c11_12; rw [hd]; dsimp only; rw [wrap_succ hb2]; refine (bif_pos (Int.ofNat_lt.2 hi)).trans ?_; refine (bif_pos (Int.natCast_nonneg _)).trans ?_; refine (at_step hi).trans ?_
          cases hq : (gt o i).1 != (gt ls k : NewsT).2.1 with
          | true =>
            rw [hq] at ha
            have ha' : acc.length + 1 ≤ pre.length + o.length * 1 := ha
            refine (bif_tt rfl).trans ?_; refine (bif_pos (show List.length acc + 1 ≤ bound by unfold bound; omega)).trans ?_; rfl
          | false => refine (bif_ff rfl).trans ?_; exact congrArg (fun z : List ItemT => rec (((i + 1 : Nat) : Int), z)) (List.append_nil acc).symm
        · show c11_12 (arun p n) fuel ls (gt ls k : NewsT) (k : Int) out ((apAt out (gt ls k : NewsT).2.1 : Nat) : Int) rec3 rec ((o.length : Int), pre ++ accL o.length fun i => bif (gt o i).1 != (gt ls k : NewsT).2.1 then [gt o i] else []) = _
          unfold c11_12; rw [hd]; dsimp only; rw [wrap_succ hb]; refine (bif_neg (Int.lt_irrefl _)).trans ?_
          rw [accL_flat (fun y : ItemT => bif y.1 != (gt ls k : NewsT).2.1 then [y] else []) o, filter_flat]
      have res : apply1 out (gt ls k : NewsT) = out.take (apAt out (gt ls k : NewsT).2.1) ++ (bif (gt ls k : NewsT).1 != 1 then [(gt ls k : NewsT).2] else []) ++ (out.drop (apAt out (gt ls k : NewsT).2.1)).filter (fun y => y.1 != (gt ls k : NewsT).2.1) := by
        rw [take_apAt, drop_apAt]; rfl
      have ht : (out.take (apAt out (gt ls k : NewsT).2.1)).length ≤ out.length := by rw [List.length_take]; omega
      have hz : ∀ (x : NewsT) (l : List ItemT) (j : Nat), (l.take ((j : Int)).toNat).drop 0 = l.take j := fun x l j => by rw [Int.toNat_natCast, List.drop_zero]
      have behind : ∃ N, ∀ fuel, N ≤ fuel → ∀ rec : Int × List ItemT → Option Out, (bif decide (0 ≤ ((apAt out (gt ls k : NewsT).2.1 : Nat) : Int)) && decide (((apAt out (gt ls k : NewsT).2.1 : Nat) : Int) ≤ ((List.length out : Nat) : Int)) then (bif decide (List.length ([] : List (Row K68)) + List.length ((out.take ((((apAt out (gt ls k : NewsT).2.1 : Nat) : Int)).toNat)).drop (0)) ≤ bound) then (bif ((vI (gt ls k : NewsT).1) != (1 : Int)) then (bif decide (List.length (@vL K68 ([] : List (Row K68)) ++ @vL K68 ((out.take ((((apAt out (gt ls k : NewsT).2.1 : Nat) : Int)).toNat)).drop (0))) + List.length ([(gt ls k : NewsT).2] : List (Row K68)) ≤ bound) then (bif decide (0 ≤ ((apAt out (gt ls k : NewsT).2.1 : Nat) : Int)) && decide (((apAt out (gt ls k : NewsT).2.1 : Nat) : Int) ≤ ((List.length out : Nat) : Int)) then (iter (c11_12 (arun p n) fuel ls (gt ls k : NewsT) (k : Int) out ((apAt out (gt ls k : NewsT).2.1 : Nat) : Int) rec) fuel ((0 : Int), (@vL K68 (@vL K68 ([] : List (Row K68)) ++ @vL K68 ((out.take ((((apAt out (gt ls k : NewsT).2.1 : Nat) : Int)).toNat)).drop (0))) ++ @vL K68 ([(gt ls k : NewsT).2] : List (Row K68))))) else none) else none) else (bif decide (0 ≤ ((apAt out (gt ls k : NewsT).2.1 : Nat) : Int)) && decide (((apAt out (gt ls k : NewsT).2.1 : Nat) : Int) ≤ ((List.length out : Nat) : Int)) then (iter (c11_12 (arun p n) fuel ls (gt ls k : NewsT) (k : Int) out ((apAt out (gt ls k : NewsT).2.1 : Nat) : Int) rec) fuel ((0 : Int), (@vL K68 ([] : List (Row K68)) ++ @vL K68 ((out.take ((((apAt out (gt ls k : NewsT).2.1 : Nat) : Int)).toNat)).drop (0))))) else none)) else none) else none) = rec (((k + 1 : Nat) : Int), apply1 out (gt ls k : NewsT)) := by
        rw [res]
        cases hw : (gt ls k : NewsT).1 != 1 with
        | true =>
          obtain ⟨N, hN⟩ := (rest (out.take (apAt out (gt ls k : NewsT).2.1) ++ [(gt ls k : NewsT).2]) (by rw [List.length_append, List.length_singleton]; omega)).all_i
          refine ⟨N, fun fuel hf rec => ?_⟩
          rw [hz (gt ls k : NewsT)]
          refine (bif_and2 (Int.natCast_nonneg _) (Int.ofNat_le.2 hj)).trans ?_
          refine (bif_pos (show 0 + (out.take (apAt out (gt ls k : NewsT).2.1)).length ≤ bound by unfold bound; omega)).trans ?_; refine (bif_tt rfl).trans ?_
          refine (bif_pos (show (out.take (apAt out (gt ls k : NewsT).2.1)).length + 1 ≤ bound by unfold bound; omega)).trans ?_
          refine (bif_and2 (Int.natCast_nonneg _) (Int.ofNat_le.2 hj)).trans ?_
          exact hN fuel hf rec
        | false =>
          obtain ⟨N, hN⟩ := (rest (out.take (apAt out (gt ls k : NewsT).2.1)) (by omega)).all_i
          refine ⟨N, fun fuel hf rec => ?_⟩
          rw [hz (gt ls k : NewsT)]
          refine (bif_and2 (Int.natCast_nonneg _) (Int.ofNat_le.2 hj)).trans ?_
          refine (bif_pos (show 0 + (out.take (apAt out (gt ls k : NewsT).2.1)).length ≤ bound by unfold bound; omega)).trans ?_; refine (bif_ff rfl).trans ?_
          refine (bif_and2 (Int.natCast_nonneg _) (Int.ofNat_le.2 hj)).trans ?_
          rw [show (bif false then [(gt ls k : NewsT).2] else ([] : List ItemT)) = [] from rfl, List.append_nil]
          exact hN fuel hf rec
      have inner : It (fun fuel rec => c11_6 (arun p n) fuel ls (gt ls k : NewsT) (k : Int) out rec) (0 : Int) (fun rec => rec (((k + 1 : Nat) : Int), apply1 out (gt ls k : NewsT))) := by
        refine It.run (fun i => (i : Int)) (apAt out (gt ls k : NewsT).2.1) (fun i hi fuel rec3 rec => ?_) ?_
        · have hi' : i < out.length := by omega
          have hb2 : i < 9223372036854775807 := by omega
          show c11_6 (arun p n) fuel ls (gt ls k : NewsT) (k : Int) out rec3 rec (i : Int) = _
          unfold c11_6; rw [wrap_succ hb2]; refine (bif_pos (Int.ofNat_lt.2 hi')).trans ?_; refine (bif_pos (Int.natCast_nonneg _)).trans ?_; refine (at_step hi').trans ?_; refine (at_step hi').trans ?_; refine (bif_pos (apAt_lt out _ i hi)).trans ?_; rfl
        · obtain ⟨N, hN⟩ := behind
          refine It.stopE (T := fun fuel rec3 => c11_6 (arun p n) fuel ls (gt ls k : NewsT) (k : Int) out rec3 (fun _ => none) ((apAt out (gt ls k : NewsT).2.1 : Nat) : Int)) (fun fuel rec3 rec => ?_) ⟨N, fun fuel hf rec3 => ?_⟩
          · rcases Nat.lt_or_ge (apAt out (gt ls k : NewsT).2.1) out.length with h | h
            · show c11_6 (arun p n) fuel ls (gt ls k : NewsT) (k : Int) out rec3 rec ((apAt out (gt ls k : NewsT).2.1 : Nat) : Int) = c11_6 (arun p n) fuel ls (gt ls k : NewsT) (k : Int) out rec3 (fun _ => none) ((apAt out (gt ls k : NewsT).2.1 : Nat) : Int)
              have go : ∀ rec : Int → Option Out, c11_6 (arun p n) fuel ls (gt ls k : NewsT) (k : Int) out rec3 rec ((apAt out (gt ls k : NewsT).2.1 : Nat) : Int) = _ := fun rec => by
                unfold c11_6; refine (bif_pos (Int.ofNat_lt.2 h)).trans ?_; refine (bif_pos (Int.natCast_nonneg _)).trans ?_; refine (at_step h).trans ?_; refine (at_step h).trans ?_; exact bif_neg (apAt_ge out _ h)
              rw [go rec, go fun _ => none]
            · have e : apAt out (gt ls k : NewsT).2.1 = out.length := by omega
              have go : ∀ rec : Int → Option Out, c11_6 (arun p n) fuel ls (gt ls k : NewsT) (k : Int) out rec3 rec ((apAt out (gt ls k : NewsT).2.1 : Nat) : Int) = _ := fun rec => by
                unfold c11_6; exact bif_neg (show ¬ (((apAt out (gt ls k : NewsT).2.1 : Nat) : Int) < ((List.length out : Nat) : Int)) by omega)
              show c11_6 (arun p n) fuel ls (gt ls k : NewsT) (k : Int) out rec3 rec ((apAt out (gt ls k : NewsT).2.1 : Nat) : Int) = c11_6 (arun p n) fuel ls (gt ls k : NewsT) (k : Int) out rec3 (fun _ => none) ((apAt out (gt ls k : NewsT).2.1 : Nat) : Int)
              rw [go rec, go fun _ => none]
          · rcases Nat.lt_or_ge (apAt out (gt ls k : NewsT).2.1) out.length with h | h
            · show c11_6 (arun p n) fuel ls (gt ls k : NewsT) (k : Int) out rec3 (fun _ => none) ((apAt out (gt ls k : NewsT).2.1 : Nat) : Int) = _
              unfold c11_6; refine (bif_pos (Int.ofNat_lt.2 h)).trans ?_; refine (bif_pos (Int.natCast_nonneg _)).trans ?_; refine (at_step h).trans ?_; refine (at_step h).trans ?_; refine (bif_neg (apAt_ge out _ h)).trans ?_; exact hN fuel hf rec3
            · show c11_6 (arun p n) fuel ls (gt ls k : NewsT) (k : Int) out rec3 (fun _ => none) ((apAt out (gt ls k : NewsT).2.1 : Nat) : Int) = _
              unfold c11_6; refine (bif_neg (show ¬ (((apAt out (gt ls k : NewsT).2.1 : Nat) : Int) < ((List.length out : Nat) : Int)) by omega)).trans ?_; exact hN fuel hf rec3
      obtain ⟨N, hN⟩ := inner.all_i
      refine ⟨N, fun fuel hf a rec => ?_⟩
      show c11_3 (arun p n) fuel ls rec ((k : Int), out) = rec (((k + 1 : Nat) : Int), apply1 out (gt ls k : NewsT))
      unfold c11_3; refine (bif_pos (Int.ofNat_lt.2 hk)).trans ?_; refine (bif_pos (Int.natCast_nonneg _)).trans ?_; refine (at_step hk).trans ?_; exact hN fuel hf rec
    · show c11_3 (arun p n) fuel ls rec ((ls.length : Int), applyTo items ls ls.length) = _
      unfold c11_3; refine (bif_neg (Int.lt_irrefl _)).trans ?_; rfl
  refine Ev.eq (fun fuel => ?_) (lp.ev (i := ()) rfl)
  unfold T11; exact bif_pos (show 0 + items.length ≤ bound by unfold bound; omega)
theorem items_lm (xs : List ItemT) (h : xs.length ≤ 4611686018427387904) : LmT (.sl K68) xs := ⟨h, fun i r _ => ⟨trivial, trivial, trivial, trivial, trivial, trivial, trivial⟩⟩
theorem news_lm (xs : List NewsT) (h : xs.length ≤ 4611686018427387904) : LmT (.sl K48) xs := ⟨h, fun i r _ => ⟨trivial, trivial, trivial, trivial, trivial, trivial, trivial, trivial⟩⟩
theorem items_cn (xs : List ItemT) : cnT (.sl K68) xs = 6 * ((xs.length : Nat) : Int) := sumI_const (c := cnR K68) (n := 6) (fun x => rfl) xs
theorem news_cn (xs : List NewsT) : cnT (.sl K48) xs = 7 * ((xs.length : Nat) : Int) := sumI_const (c := cnR K48) (n := 7) (fun x => rfl) xs
end Go.Abs.Nz
