/- What the functions of this program answer, part nw. -/
import Derived.Test.YtbdgofceanjgpaaXj
import Derived.Test.YtbdgofceanjgpaaW2
set_option linter.unusedVariables false
namespace Go.Abs.Pz
open Go Go.Abs
theorem cutAll {α : Type} (xs : List α) (j : Nat) : (xs.take xs.length).drop ((j : Int)).toNat = xs.drop j := by rw [List.take_length, Int.toNat_natCast]
theorem f12 (items : List ItemT) (ls : List NewsT) (h1 : items.length ≤ 2097152) (h2 : ls.length ≤ small) : Ran p 1 12 [.val false ⟨K24, (items, ())⟩, .val false ⟨K30, (ls, ())⟩] ⟨[⟨K24, (applyN items ls, ())⟩], []⟩ := go12 fun n hn => by
 have hs : small = 1048576 := rfl
 have lp : It (fun fuel (_ : Unit) => c12_3 (arun p n) fuel ls) ((0 : Int), items) (fun _ => some ⟨[⟨K24, (applyN items ls, ())⟩], []⟩) := by
  refine It.runE (fun k => ((k : Int), applyTo items ls k)) ls.length (fun k hk => ?_) (It.stop fun fuel a rec => ?_)
  ·have hb : k < 9223372036854775807 := by omega
   have hl := applyTo_len items ls k
   have inner : It (fun fuel rec => c12_9 (arun p n) fuel ls (gt ls k : NewsT) (k : Int) (applyTo items ls k) rec) ((gt ls k : NewsT).1 == 1, ((0 : Int), ([] : List ItemT))) (fun rec => rec (((k + 1 : Nat) : Int), applyTo items ls (k + 1))) := by
    refine It.run (fun i => ((apTo (gt ls k : NewsT) (applyTo items ls k) i).1, ((i : Int), (apTo (gt ls k : NewsT) (applyTo items ls k) i).2))) (applyTo items ls k).length (fun i hi fuel rec3 rec => ?_) (It.stop fun fuel rec3 rec => ?_)
    ·have hb2 : i < 9223372036854775807 := by omega
     have ha := apTo_len (gt ls k : NewsT) (applyTo items ls k) i
     have e : apTo (gt ls k : NewsT) (applyTo items ls k) (i + 1) = apStep (gt ls k : NewsT) (apTo (gt ls k : NewsT) (applyTo items ls k) i) (gt (applyTo items ls k) i) := rfl
     rw [e]
     generalize apTo (gt ls k : NewsT) (applyTo items ls k) i = s at *
     obtain ⟨d, acc⟩ := s
     dsimp only at ha
     show c12_9 (arun p n) fuel ls (gt ls k : NewsT) (k : Int) (applyTo items ls k) rec3 rec (d, ((i : Int), acc)) = rec (d || decide ((gt (applyTo items ls k) i).1 ≥ (gt ls k : NewsT).2.1), (((i + 1 : Nat) : Int), acc ++ ((bif !d && decide ((gt (applyTo items ls k) i).1 ≥ (gt ls k : NewsT).2.1) then [(gt ls k : NewsT).2] else []) ++ (bif (gt (applyTo items ls k) i).1 != (gt ls k : NewsT).2.1 then [gt (applyTo items ls k) i] else []))))
     unfold c12_9; dsimp only; rw [wrap_succ hb2]; refine (bif_pos (Int.ofNat_lt.2 hi)).trans ?_
     have tail : ∀ (d' : Bool) (a' : List ItemT), a'.length ≤ 2 * i + 1 → (bif (gt (applyTo items ls k) i).1 != (gt ls k : NewsT).2.1 then (bif decide (0 ≤ (i : Int)) then ((at? (applyTo items ls k) ((i : Int)).toNat).bind fun _ => ((at? (applyTo items ls k) ((i : Int)).toNat).bind fun r => (bif decide (List.length a' + List.length ([r] : List (Row K45)) ≤ bound) then (rec (d', (((i + 1 : Nat) : Int), (@vL K45 a' ++ @vL K45 ([r] : List (Row K45)))))) else none))) else none) else (rec (d', (((i + 1 : Nat) : Int), a')))) = rec (d', (((i + 1 : Nat) : Int), a' ++ (bif (gt (applyTo items ls k) i).1 != (gt ls k : NewsT).2.1 then [gt (applyTo items ls k) i] else []))) := by
      intro d' a' hl'
      cases (gt (applyTo items ls k) i).1 != (gt ls k : NewsT).2.1 with
      | true => refine (bif_tt rfl).trans ?_; refine (bif_pos (Int.natCast_nonneg _)).trans ?_; refine (at_step hi).trans ?_; refine (at_step hi).trans ?_; refine (bif_pos (show List.length a' + 1 ≤ bound by unfold bound; omega)).trans ?_; rfl
      | false => refine (bif_ff rfl).trans ?_; rw [show (bif false then [gt (applyTo items ls k) i] else ([] : List ItemT)) = [] from rfl, List.append_nil]
     cases d with
     | true =>
      refine (bif_ff rfl).trans ?_; refine (bif_pos (Int.natCast_nonneg _)).trans ?_; refine (at_step hi).trans ?_; refine (at_step hi).trans ?_
      exact (tail true acc (by omega)).trans (by rfl)
     | false =>
      refine (bif_tt rfl).trans ?_; refine (bif_pos (Int.natCast_nonneg _)).trans ?_; refine (at_step hi).trans ?_; refine (at_step hi).trans ?_
      by_cases hge : (gt (applyTo items ls k) i).1 ≥ (gt ls k : NewsT).2.1
      ·rw [decide_eq_true hge]
       refine (bif_tt rfl).trans ?_; refine (bif_pos (show List.length acc + 1 ≤ bound by unfold bound; omega)).trans ?_; refine (bif_pos (Int.natCast_nonneg _)).trans ?_; refine (at_step hi).trans ?_; refine (at_step hi).trans ?_
       refine (tail true (acc ++ [(gt ls k : NewsT).2]) (by rw [List.length_append, List.length_singleton]; omega)).trans ?_
       rw [List.append_assoc]; rfl
      ·rw [decide_eq_false hge]
       refine (bif_ff rfl).trans ?_; refine (bif_pos (Int.natCast_nonneg _)).trans ?_; refine (at_step hi).trans ?_; refine (at_step hi).trans ?_
       exact (tail false acc (by omega)).trans (by rfl)
    ·have ha := apTo_len (gt ls k : NewsT) (applyTo items ls k) (applyTo items ls k).length
     have he : applyTo items ls (k + 1) = (apTo (gt ls k : NewsT) (applyTo items ls k) (applyTo items ls k).length).2 ++ (bif (apTo (gt ls k : NewsT) (applyTo items ls k) (applyTo items ls k).length).1 then [] else [(gt ls k : NewsT).2]) := (ap_eq (gt ls k : NewsT) (applyTo items ls k)).symm
     rw [he]
     generalize apTo (gt ls k : NewsT) (applyTo items ls k) (applyTo items ls k).length = s at *
     obtain ⟨d, acc⟩ := s
     dsimp only at ha
     show c12_9 (arun p n) fuel ls (gt ls k : NewsT) (k : Int) (applyTo items ls k) rec3 rec (d, (((applyTo items ls k).length : Int), acc)) = rec3 (((k + 1 : Nat) : Int), acc ++ (bif d then [] else [(gt ls k : NewsT).2]))
     unfold c12_9; dsimp only; rw [wrap_succ hb]; refine (bif_neg (Int.lt_irrefl _)).trans ?_
     cases d with
     | true => refine (bif_ff rfl).trans ?_; rw [show (bif true then ([] : List ItemT) else [(gt ls k : NewsT).2]) = [] from rfl, List.append_nil]
     | false => refine (bif_tt rfl).trans ?_; refine (bif_pos (show List.length acc + 1 ≤ bound by unfold bound; omega)).trans ?_; rfl
   obtain ⟨N, hN⟩ := inner.all_i
   refine ⟨N, fun fuel hf a rec => ?_⟩
   show c12_3 (arun p n) fuel ls rec ((k : Int), applyTo items ls k) = rec (((k + 1 : Nat) : Int), applyTo items ls (k + 1))
   unfold c12_3; refine (bif_pos (Int.ofNat_lt.2 hk)).trans ?_; refine (bif_pos (Int.natCast_nonneg _)).trans ?_; refine (at_step hk).trans ?_; exact hN fuel hf rec
  ·show c12_3 (arun p n) fuel ls rec ((ls.length : Int), applyTo items ls ls.length) = _
   unfold c12_3; refine (bif_neg (Int.lt_irrefl _)).trans ?_; rfl
 refine Ev.eq (fun fuel => ?_) (lp.ev (i := ()) rfl)
 unfold T12; exact bif_pos (show 0 + items.length ≤ bound by unfold bound; omega)
theorem f11 (items : List ItemT) (ls : List NewsT) (h1 : items.length ≤ 2097152) (h2 : ls.length ≤ small) : Ran p 1 11 [.val false ⟨K24, (items, ())⟩, .val false ⟨K30, (ls, ())⟩] ⟨[⟨K24, (applyN items ls, ())⟩], []⟩ := go11 fun n hn => by
 have hs : small = 1048576 := rfl
 have lp : It (fun fuel (_ : Unit) => c11_3 (arun p n) fuel ls) ((0 : Int), items) (fun _ => some ⟨[⟨K24, (applyN items ls, ())⟩], []⟩) := by
  refine It.runE (fun k => ((k : Int), applyTo items ls k)) ls.length (fun k hk => ?_) (It.stop fun fuel a rec => ?_)
  ·have hb : k < 9223372036854775807 := by omega
   have hl := applyTo_len items ls k
   have e : applyTo items ls (k + 1) = apply1 (applyTo items ls k) (gt ls k : NewsT) := rfl
   rw [e]
   generalize applyTo items ls k = out at *
   have hj := apAt_le out (gt ls k : NewsT).2.1
   have rest : ∀ pre : List ItemT, pre.length ≤ out.length + 1 → It (fun fuel rec => c11_12 (arun p n) fuel ls (gt ls k : NewsT) (k : Int) out ((apAt out (gt ls k : NewsT).2.1 : Nat) : Int) rec) ((0 : Int), pre) (fun rec => rec (((k + 1 : Nat) : Int), pre ++ (out.drop (apAt out (gt ls k : NewsT).2.1)).filter (fun y => y.1 != (gt ls k : NewsT).2.1))) := by
    intro pre hp
    have hd : @List.drop (Row K45) (((apAt out (gt ls k : NewsT).2.1 : Nat) : Int)).toNat (@List.take (Row K45) (@List.length (Row K45) out) out) = out.drop (apAt out (gt ls k : NewsT).2.1) := cutAll (α := Row K45) out _
    have hdl : (out.drop (apAt out (gt ls k : NewsT).2.1)).length ≤ out.length := by rw [List.length_drop]; omega
    generalize hO : out.drop (apAt out (gt ls k : NewsT).2.1) = o at *
    refine It.accu (α := ItemT) pre (fun i => bif (gt o i).1 != (gt ls k : NewsT).2.1 then [gt o i] else []) o.length 1 (fun i hi => by cases (gt o i).1 != (gt ls k : NewsT).2.1 <;> simp) (fun i hi acc ha fuel rec3 rec => ?_) (It.stop fun fuel rec3 rec => ?_)
    ·have hb2 : i < 9223372036854775807 := by omega
     show c11_12 (arun p n) fuel ls (gt ls k : NewsT) (k : Int) out ((apAt out (gt ls k : NewsT).2.1 : Nat) : Int) rec3 rec ((i : Int), acc) = _
     unfold c11_12; rw [hd]; dsimp only; rw [wrap_succ hb2]; refine (bif_pos (Int.ofNat_lt.2 hi)).trans ?_; refine (bif_pos (Int.natCast_nonneg _)).trans ?_; refine (at_step hi).trans ?_
     cases hq : (gt o i).1 != (gt ls k : NewsT).2.1 with
     | true =>
      rw [hq] at ha
      have ha' : acc.length + 1 ≤ pre.length + o.length * 1 := ha
      refine (bif_tt rfl).trans ?_; refine (bif_pos (show List.length acc + 1 ≤ bound by unfold bound; omega)).trans ?_; rfl
     | false => refine (bif_ff rfl).trans ?_; exact congrArg (fun z : List ItemT => rec (((i + 1 : Nat) : Int), z)) (List.append_nil acc).symm
    ·show c11_12 (arun p n) fuel ls (gt ls k : NewsT) (k : Int) out ((apAt out (gt ls k : NewsT).2.1 : Nat) : Int) rec3 rec ((o.length : Int), pre ++ accL o.length fun i => bif (gt o i).1 != (gt ls k : NewsT).2.1 then [gt o i] else []) = _
     unfold c11_12; rw [hd]; dsimp only; rw [wrap_succ hb]; refine (bif_neg (Int.lt_irrefl _)).trans ?_
     rw [accL_flat (fun y : ItemT => bif y.1 != (gt ls k : NewsT).2.1 then [y] else []) o, filter_flat]
   have res : apply1 out (gt ls k : NewsT) = out.take (apAt out (gt ls k : NewsT).2.1) ++ (bif (gt ls k : NewsT).1 != 1 then [(gt ls k : NewsT).2] else []) ++ (out.drop (apAt out (gt ls k : NewsT).2.1)).filter (fun y => y.1 != (gt ls k : NewsT).2.1) := by
    rw [take_apAt, drop_apAt]; rfl
   have ht : (out.take (apAt out (gt ls k : NewsT).2.1)).length ≤ out.length := by rw [List.length_take]; omega
   have hz : ∀ (x : NewsT) (l : List ItemT) (j : Nat), (l.take ((j : Int)).toNat).drop 0 = l.take j := fun x l j => by rw [Int.toNat_natCast, List.drop_zero]
   have behind : ∃ N, ∀ fuel, N ≤ fuel → ∀ rec : Int × List ItemT → Option Out, (bif decide (0 ≤ ((apAt out (gt ls k : NewsT).2.1 : Nat) : Int)) && decide (((apAt out (gt ls k : NewsT).2.1 : Nat) : Int) ≤ ((List.length out : Nat) : Int)) then (bif decide (List.length ([] : List (Row K45)) + List.length ((out.take ((((apAt out (gt ls k : NewsT).2.1 : Nat) : Int)).toNat)).drop (0)) ≤ bound) then (bif ((vI (gt ls k : NewsT).1) != (1 : Int)) then (bif decide (List.length (@vL K45 ([] : List (Row K45)) ++ @vL K45 ((out.take ((((apAt out (gt ls k : NewsT).2.1 : Nat) : Int)).toNat)).drop (0))) + List.length ([(gt ls k : NewsT).2] : List (Row K45)) ≤ bound) then (bif decide (0 ≤ ((apAt out (gt ls k : NewsT).2.1 : Nat) : Int)) && decide (((apAt out (gt ls k : NewsT).2.1 : Nat) : Int) ≤ ((List.length out : Nat) : Int)) then (iter (c11_12 (arun p n) fuel ls (gt ls k : NewsT) (k : Int) out ((apAt out (gt ls k : NewsT).2.1 : Nat) : Int) rec) fuel ((0 : Int), (@vL K45 (@vL K45 ([] : List (Row K45)) ++ @vL K45 ((out.take ((((apAt out (gt ls k : NewsT).2.1 : Nat) : Int)).toNat)).drop (0))) ++ @vL K45 ([(gt ls k : NewsT).2] : List (Row K45))))) else none) else none) else (bif decide (0 ≤ ((apAt out (gt ls k : NewsT).2.1 : Nat) : Int)) && decide (((apAt out (gt ls k : NewsT).2.1 : Nat) : Int) ≤ ((List.length out : Nat) : Int)) then (iter (c11_12 (arun p n) fuel ls (gt ls k : NewsT) (k : Int) out ((apAt out (gt ls k : NewsT).2.1 : Nat) : Int) rec) fuel ((0 : Int), (@vL K45 ([] : List (Row K45)) ++ @vL K45 ((out.take ((((apAt out (gt ls k : NewsT).2.1 : Nat) : Int)).toNat)).drop (0))))) else none)) else none) else none) = rec (((k + 1 : Nat) : Int), apply1 out (gt ls k : NewsT)) := by
    rw [res]
    cases hw : (gt ls k : NewsT).1 != 1 with
    | true =>
     obtain ⟨N, hN⟩ := (rest (out.take (apAt out (gt ls k : NewsT).2.1) ++ [(gt ls k : NewsT).2]) (by rw [List.length_append, List.length_singleton]; omega)).all_i
     refine ⟨N, fun fuel hf rec => ?_⟩
     rw [hz (gt ls k : NewsT)]
     refine (bif_and2 (Int.natCast_nonneg _) (Int.ofNat_le.2 hj)).trans ?_
     refine (bif_pos (show 0 + (out.take (apAt out (gt ls k : NewsT).2.1)).length ≤ bound by unfold bound; omega)).trans ?_; refine (bif_tt rfl).trans ?_
     refine (bif_pos (show (out.take (apAt out (gt ls k : NewsT).2.1)).length + 1 ≤ bound by unfold bound; omega)).trans ?_
     refine (bif_and2 (Int.natCast_nonneg _) (Int.ofNat_le.2 hj)).trans ?_
     exact hN fuel hf rec
    | false =>
     obtain ⟨N, hN⟩ := (rest (out.take (apAt out (gt ls k : NewsT).2.1)) (by omega)).all_i
     refine ⟨N, fun fuel hf rec => ?_⟩
     rw [hz (gt ls k : NewsT)]
     refine (bif_and2 (Int.natCast_nonneg _) (Int.ofNat_le.2 hj)).trans ?_
     refine (bif_pos (show 0 + (out.take (apAt out (gt ls k : NewsT).2.1)).length ≤ bound by unfold bound; omega)).trans ?_; refine (bif_ff rfl).trans ?_
     refine (bif_and2 (Int.natCast_nonneg _) (Int.ofNat_le.2 hj)).trans ?_
     rw [show (bif false then [(gt ls k : NewsT).2] else ([] : List ItemT)) = [] from rfl, List.append_nil]
     exact hN fuel hf rec
   have inner : It (fun fuel rec => c11_6 (arun p n) fuel ls (gt ls k : NewsT) (k : Int) out rec) (0 : Int) (fun rec => rec (((k + 1 : Nat) : Int), apply1 out (gt ls k : NewsT))) := by
    refine It.run (fun i => (i : Int)) (apAt out (gt ls k : NewsT).2.1) (fun i hi fuel rec3 rec => ?_) ?_
    ·have hi' : i < out.length := by omega
     have hb2 : i < 9223372036854775807 := by omega
     show c11_6 (arun p n) fuel ls (gt ls k : NewsT) (k : Int) out rec3 rec (i : Int) = _
     unfold c11_6; rw [wrap_succ hb2]; refine (bif_pos (Int.ofNat_lt.2 hi')).trans ?_; refine (bif_pos (Int.natCast_nonneg _)).trans ?_; refine (at_step hi').trans ?_; refine (at_step hi').trans ?_; refine (bif_pos (apAt_lt out _ i hi)).trans ?_; rfl
    ·obtain ⟨N, hN⟩ := behind
     refine It.stopE (T := fun fuel rec3 => c11_6 (arun p n) fuel ls (gt ls k : NewsT) (k : Int) out rec3 (fun _ => none) ((apAt out (gt ls k : NewsT).2.1 : Nat) : Int)) (fun fuel rec3 rec => ?_) ⟨N, fun fuel hf rec3 => ?_⟩
     ·rcases Nat.lt_or_ge (apAt out (gt ls k : NewsT).2.1) out.length with h | h
      ·show c11_6 (arun p n) fuel ls (gt ls k : NewsT) (k : Int) out rec3 rec ((apAt out (gt ls k : NewsT).2.1 : Nat) : Int) = c11_6 (arun p n) fuel ls (gt ls k : NewsT) (k : Int) out rec3 (fun _ => none) ((apAt out (gt ls k : NewsT).2.1 : Nat) : Int)
       have go : ∀ rec : Int → Option Out, c11_6 (arun p n) fuel ls (gt ls k : NewsT) (k : Int) out rec3 rec ((apAt out (gt ls k : NewsT).2.1 : Nat) : Int) = _ := fun rec => by
        unfold c11_6; refine (bif_pos (Int.ofNat_lt.2 h)).trans ?_; refine (bif_pos (Int.natCast_nonneg _)).trans ?_; refine (at_step h).trans ?_; refine (at_step h).trans ?_; exact bif_neg (apAt_ge out _ h)
       rw [go rec, go fun _ => none]
      ·have e : apAt out (gt ls k : NewsT).2.1 = out.length := by omega
       have go : ∀ rec : Int → Option Out, c11_6 (arun p n) fuel ls (gt ls k : NewsT) (k : Int) out rec3 rec ((apAt out (gt ls k : NewsT).2.1 : Nat) : Int) = _ := fun rec => by
        unfold c11_6; exact bif_neg (show ¬ (((apAt out (gt ls k : NewsT).2.1 : Nat) : Int) < ((List.length out : Nat) : Int)) by omega)
       show c11_6 (arun p n) fuel ls (gt ls k : NewsT) (k : Int) out rec3 rec ((apAt out (gt ls k : NewsT).2.1 : Nat) : Int) = c11_6 (arun p n) fuel ls (gt ls k : NewsT) (k : Int) out rec3 (fun _ => none) ((apAt out (gt ls k : NewsT).2.1 : Nat) : Int)
       rw [go rec, go fun _ => none]
     ·rcases Nat.lt_or_ge (apAt out (gt ls k : NewsT).2.1) out.length with h | h
      ·show c11_6 (arun p n) fuel ls (gt ls k : NewsT) (k : Int) out rec3 (fun _ => none) ((apAt out (gt ls k : NewsT).2.1 : Nat) : Int) = _
       unfold c11_6; refine (bif_pos (Int.ofNat_lt.2 h)).trans ?_; refine (bif_pos (Int.natCast_nonneg _)).trans ?_; refine (at_step h).trans ?_; refine (at_step h).trans ?_; refine (bif_neg (apAt_ge out _ h)).trans ?_; exact hN fuel hf rec3
      ·show c11_6 (arun p n) fuel ls (gt ls k : NewsT) (k : Int) out rec3 (fun _ => none) ((apAt out (gt ls k : NewsT).2.1 : Nat) : Int) = _
       unfold c11_6; refine (bif_neg (show ¬ (((apAt out (gt ls k : NewsT).2.1 : Nat) : Int) < ((List.length out : Nat) : Int)) by omega)).trans ?_; exact hN fuel hf rec3
   obtain ⟨N, hN⟩ := inner.all_i
   refine ⟨N, fun fuel hf a rec => ?_⟩
   show c11_3 (arun p n) fuel ls rec ((k : Int), out) = rec (((k + 1 : Nat) : Int), apply1 out (gt ls k : NewsT))
   unfold c11_3; refine (bif_pos (Int.ofNat_lt.2 hk)).trans ?_; refine (bif_pos (Int.natCast_nonneg _)).trans ?_; refine (at_step hk).trans ?_; exact hN fuel hf rec
  ·show c11_3 (arun p n) fuel ls rec ((ls.length : Int), applyTo items ls ls.length) = _
   unfold c11_3; refine (bif_neg (Int.lt_irrefl _)).trans ?_; rfl
 refine Ev.eq (fun fuel => ?_) (lp.ev (i := ()) rfl)
 unfold T11; exact bif_pos (show 0 + items.length ≤ bound by unfold bound; omega)
theorem f15 (s : StateT) (id : Int) (hz : SzS s) : Ran p 5 15 [.val true ⟨K27, s⟩, .val false ⟨K3, (id, ())⟩] ⟨[⟨K34, (lookup s id).1⟩, ⟨K4, ((lookup s id).2, ())⟩], []⟩ := go15 fun n hn => Ev.now fun fuel => by
 unfold T15; refine (call_step (f10 s hz n (by omega))).trans ?_; refine (call_step2 (f35 (viewS s, [], ()) id (small_max (viewS_len hz)) n (by omega))).trans ?_; rfl
theorem f16 (x y : EntryT) : Ran p 1 16 [.val true ⟨K34, x⟩, .val true ⟨K34, y⟩] ⟨[⟨K3, (newsKind x y, ())⟩], []⟩ := go16 fun n hn => Ev.now fun fuel => by
 unfold T16 newsKind vI vS
 cases x.1 != y.1 <;> cases x.2.2.2.1 != y.2.2.2.1 <;> cases (ByteArray.toList x.2.2.2.2.1 == ByteArray.toList y.2.2.2.2.1) <;> cases x.2.2.1 != y.2.2.1 <;> rfl
theorem f18 (x y : EntryT) : Ran p 1 18 [.val true ⟨K34, x⟩, .val true ⟨K34, y⟩] ⟨[⟨K3, (newsKind x y, ())⟩], []⟩ := go18 fun n hn => Ev.now fun fuel => by
 unfold T18 newsKind vI vS
 cases x.1 != y.1 <;> cases x.2.2.2.1 != y.2.2.2.1 <;> cases (ByteArray.toList x.2.2.2.2.1 == ByteArray.toList y.2.2.2.2.1) <;> cases x.2.2.1 != y.2.2.1 <;> rfl
theorem f6 (a b : StateT) (ha : SzS a) (hb : SzS b) : Ran p 6 6 [.val true ⟨K27, a⟩, .val true ⟨K27, b⟩] ⟨[⟨K30, (newsOf a b, ())⟩], []⟩ := go6 fun n hn => by
 have lp : It (fun fuel (_ : Unit) => c6_5 (arun p n) fuel a b) ((0 : Int), ([] : List NewsT)) (fun _ => some ⟨[⟨K30, (accL 5 (newsAt a b), ())⟩], []⟩) := by
  refine It.accu (α := NewsT) [] (newsAt a b) 5 1 (fun i hi => newsAt_len a b i) (fun i hi acc hl fuel u rec => ?_) (It.stop fun fuel u rec => ?_)
  ·have hi2 : i < 9223372036854775807 := by omega
   have hbd : acc.length ≤ 5 → decide (acc.length + 1 ≤ bound) = true := fun h => decide_eq_true (by unfold bound; omega)
   show c6_5 (arun p n) fuel a b rec ((i : Int), acc) = rec (((i + 1 : Nat) : Int), acc ++ newsAt a b i)
   unfold c6_5 newsAt at *; dsimp only; rw [wrap_succ hi2]; refine (bif_pos (show (i : Int) < 5 by omega)).trans ?_; refine (call_step2 (f15 a (i : Int) ha n (by omega))).trans ?_; refine (call_step2 (f15 b (i : Int) hb n (by omega))).trans ?_
   generalize lookup a (i : Int) = la at *
   generalize lookup b (i : Int) = lb at *
   obtain ⟨x, d⟩ := la; obtain ⟨y, e⟩ := lb
   cases d <;> cases e
   ·refine (bif_ff rfl).trans ?_; refine (bif_ff rfl).trans ?_; refine (bif_ff rfl).trans ?_; exact congrArg (fun z : List NewsT => rec (((i + 1 : Nat) : Int), z)) (List.append_nil acc).symm
   ·refine (bif_ff rfl).trans ?_; refine (bif_ff rfl).trans ?_; refine (bif_tt rfl).trans ?_; refine (bif_pos (show acc.length + 1 ≤ bound by unfold bound; simp at hl; omega)).trans ?_; rfl
   ·refine (bif_tt rfl).trans ?_; refine (bif_ff rfl).trans ?_; refine (bif_tt rfl).trans ?_; refine (bif_pos (show acc.length + 1 ≤ bound by unfold bound; simp at hl; omega)).trans ?_; rfl
   ·refine (bif_tt rfl).trans ?_; refine (bif_tt rfl).trans ?_; refine (call_step (f16 x y n (by omega))).trans ?_
    by_cases hk : newsKind x y ≥ 0
    ·rw [decide_eq_true hk] at hl ⊢; refine (bif_tt rfl).trans ?_; refine (bif_pos (show acc.length + 1 ≤ bound by unfold bound; simp at hl; omega)).trans ?_; rfl
    ·rw [decide_eq_false hk]; refine (bif_ff rfl).trans ?_; exact congrArg (fun z : List NewsT => rec (((i + 1 : Nat) : Int), z)) (List.append_nil acc).symm
  ·show c6_5 (arun p n) fuel a b rec (((5 : Nat) : Int), [] ++ accL 5 (newsAt a b)) = _
   unfold c6_5; exact bif_neg (show ¬ ((5 : Int) < 5) by omega)
 cases h1 : stateOk a with
 | false => refine Ev.now fun fuel => ?_; unfold T6 newsOf; refine (call_step (f14 a (small_max ha.1) (small_max ha.2) n (by omega))).trans ?_; rw [h1]; rfl
 | true =>
  cases h2 : stateOk b with
  | false => refine Ev.now fun fuel => ?_; unfold T6 newsOf; refine (call_step (f14 a (small_max ha.1) (small_max ha.2) n (by omega))).trans ?_; rw [h1]; refine (bif_ff rfl).trans ?_; refine (call_step (f14 b (small_max hb.1) (small_max hb.2) n (by omega))).trans ?_; rw [h2]; rfl
  | true =>
   have e : newsOf a b = accL 5 (newsAt a b) := by unfold newsOf; rw [h1, h2]; rfl
   rw [e]
   refine Ev.eq (fun fuel => ?_) (lp.ev (i := ()) rfl)
   unfold T6; refine (call_step (f14 a (small_max ha.1) (small_max ha.2) n (by omega))).trans ?_; rw [h1]; refine (bif_ff rfl).trans ?_; refine (call_step (f14 b (small_max hb.1) (small_max hb.2) n (by omega))).trans ?_; rw [h2]; rfl
theorem f7 (a b : StateT) (ha : SzS a) (hb : SzS b) : Ran p 6 7 [.val true ⟨K27, a⟩, .val true ⟨K27, b⟩] ⟨[⟨K30, (newsOf a b, ())⟩], []⟩ := go7 fun n hn => by
 have lp : It (fun fuel (_ : Unit) => c7_5 (arun p n) fuel a b) ((0 : Int), ([] : List NewsT)) (fun _ => some ⟨[⟨K30, (accL 5 (newsAt a b), ())⟩], []⟩) := by
  refine It.accu (α := NewsT) [] (newsAt a b) 5 1 (fun i hi => newsAt_len a b i) (fun i hi acc hl fuel u rec => ?_) (It.stop fun fuel u rec => ?_)
  ·have hi2 : i < 9223372036854775807 := by omega
   show c7_5 (arun p n) fuel a b rec ((i : Int), acc) = rec (((i + 1 : Nat) : Int), acc ++ newsAt a b i)
   unfold c7_5 newsAt at *; dsimp only; rw [wrap_succ hi2]; refine (bif_pos (show (i : Int) < 5 by omega)).trans ?_; refine (call_step2 (f17 a (i : Int) ha n (by omega))).trans ?_; refine (call_step2 (f17 b (i : Int) hb n (by omega))).trans ?_
   generalize lookup a (i : Int) = la at *
   generalize lookup b (i : Int) = lb at *
   obtain ⟨x, d⟩ := la; obtain ⟨y, e⟩ := lb
   cases d <;> cases e
   ·refine (bif_tt rfl).trans ?_; refine (bif_ff rfl).trans ?_; refine (bif_ff rfl).trans ?_; refine (bif_ff rfl).trans ?_; exact congrArg (fun z : List NewsT => rec (((i + 1 : Nat) : Int), z)) (List.append_nil acc).symm
   ·refine (bif_tt rfl).trans ?_; refine (bif_tt rfl).trans ?_; refine (bif_pos (show acc.length + 1 ≤ bound by unfold bound; simp at hl; omega)).trans ?_; rfl
   ·refine (bif_ff rfl).trans ?_; refine (bif_tt rfl).trans ?_; refine (bif_tt rfl).trans ?_; refine (bif_pos (show acc.length + 1 ≤ bound by unfold bound; simp at hl; omega)).trans ?_; rfl
   ·refine (bif_ff rfl).trans ?_; refine (bif_tt rfl).trans ?_; refine (bif_ff rfl).trans ?_; refine (bif_tt rfl).trans ?_; refine (call_step (f18 x y n (by omega))).trans ?_
    by_cases hk : newsKind x y ≥ 0
    ·rw [decide_eq_true hk] at hl ⊢; refine (bif_tt rfl).trans ?_; refine (call_step (f18 x y n (by omega))).trans ?_; refine (bif_pos (show acc.length + 1 ≤ bound by unfold bound; simp at hl; omega)).trans ?_; rfl
    ·rw [decide_eq_false hk]; refine (bif_ff rfl).trans ?_; exact congrArg (fun z : List NewsT => rec (((i + 1 : Nat) : Int), z)) (List.append_nil acc).symm
  ·show c7_5 (arun p n) fuel a b rec (((5 : Nat) : Int), [] ++ accL 5 (newsAt a b)) = _
   unfold c7_5; exact bif_neg (show ¬ ((5 : Int) < 5) by omega)
 cases h1 : stateOk a with
 | false => refine Ev.now fun fuel => ?_; unfold T7 newsOf; refine (call_step (f8 a (small_max ha.1) (small_max ha.2) n (by omega))).trans ?_; rw [h1]; rfl
 | true =>
  cases h2 : stateOk b with
  | false => refine Ev.now fun fuel => ?_; unfold T7 newsOf; refine (call_step (f8 a (small_max ha.1) (small_max ha.2) n (by omega))).trans ?_; rw [h1]; refine (bif_ff rfl).trans ?_; refine (call_step (f8 b (small_max hb.1) (small_max hb.2) n (by omega))).trans ?_; rw [h2]; rfl
  | true =>
   have e : newsOf a b = accL 5 (newsAt a b) := by unfold newsOf; rw [h1, h2]; rfl
   rw [e]
   refine Ev.eq (fun fuel => ?_) (lp.ev (i := ()) rfl)
   unfold T7; refine (call_step (f8 a (small_max ha.1) (small_max ha.2) n (by omega))).trans ?_; rw [h1]; refine (bif_ff rfl).trans ?_; refine (call_step (f8 b (small_max hb.1) (small_max hb.2) n (by omega))).trans ?_; rw [h2]; rfl
end Go.Abs.Pz
