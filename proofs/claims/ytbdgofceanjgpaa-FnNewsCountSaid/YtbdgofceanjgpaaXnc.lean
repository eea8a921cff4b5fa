/- What the functions of this program answer, part nc. -/
import Derived.Test.YtbdgofceanjgpaaXdc
import Derived.Test.YtbdgofceanjgpaaW3
set_option linter.unusedVariables false
namespace Go.Abs.Pz
open Go Go.Abs
theorem law_newsCount (b : List NumT) (ho : ROkay K22 (b, ())) : Ran p 9 3 [.val false ⟨K22, (b, ())⟩] trueOut := by
 by_cases hb : ((b.length : Nat) : Int) > 1048576
 ·exact go3 fun n hn => Ev.now fun fuel => by unfold T3; refine (call_step (f4 b n (by omega))).trans ?_; exact bif_pos hb
 obtain ⟨s, t, h1, hs, ht⟩ := f5 b (by omega)
 obtain ⟨l, m, h2, hl, hm⟩ := f9 b (by omega)
 have zs := hs.sz (by omega)
 have zt := ht.sz (by omega)
 have n1 := f6 s t zs zt
 have n2 := f7 s t zs zt
 have o1 := f8 s (small_max zs.a) (small_max zs.b)
 have o2 := f8 t (small_max zt.a) (small_max zt.b)
 have hlen := newsOf_len s t
 cases k1 : stateOk s with
 | false =>
  have e : newsOf s t = [] := by unfold newsOf; rw [k1]; rfl
  exact go3 fun n hn => Ev.now fun fuel => by
   unfold T3; refine (call_step (f4 b n (by omega))).trans ?_; refine (bif_neg hb).trans ?_; refine (call_two (h1 n (by omega))).trans ?_; refine (call_step (n1 n (by omega))).trans ?_; refine (call_step (n2 n (by omega))).trans ?_; refine (bif_ff (bne_self_eq_false _)).trans ?_; refine (call_step (o1 n (by omega))).trans ?_; rw [k1]; refine (bif_tt rfl).trans ?_; rw [e]; rfl
 | true =>
 cases k2 : stateOk t with
 | false =>
  have e : newsOf s t = [] := by unfold newsOf; rw [k1, k2]; rfl
  exact go3 fun n hn => Ev.now fun fuel => by
   unfold T3; refine (call_step (f4 b n (by omega))).trans ?_; refine (bif_neg hb).trans ?_; refine (call_two (h1 n (by omega))).trans ?_; refine (call_step (n1 n (by omega))).trans ?_; refine (call_step (n2 n (by omega))).trans ?_; refine (bif_ff (bne_self_eq_false _)).trans ?_; refine (call_step (o1 n (by omega))).trans ?_; rw [k1]; refine (bif_ff rfl).trans ?_; refine (call_step (o2 n (by omega))).trans ?_; rw [k2]; refine (bif_tt rfl).trans ?_; rw [e]; rfl
 | true =>
  have hc := news_count k1 k2
  have v1 := f10 t zt
  have v2 := f10 s zs
  have a1 := f11 l m (by omega) (by show m.length ≤ 1048576; omega)
  have a2 := f12 l m (by omega) (by show m.length ≤ 1048576; omega)
  have b1 := viewS_le s
  have b2 := viewS_le t
  have b3 := hs.a
  have b4 := ht.a
  refine go3 fun n hn => ?_
  have lp : It (fun fuel (_ : Unit) => c3_11 (arun p n) fuel b ((s, t, ()), ()) (((newsOf s t, ()), ()), ())) ((0 : Int), (0 : Int)) (fun _ => some trueOut) := by
   refine It.run (fun i => (sumD ((newsOf s t).take i), (i : Int))) (newsOf s t).length (fun i hi fuel a rec => ?_) (It.stop fun fuel a rec => ?_)
   ·show c3_11 (arun p n) fuel b ((s, t, ()), ()) (((newsOf s t, ()), ()), ()) rec (sumD ((newsOf s t).take i), (i : Int)) = _
    have hbd := sumD_bnd ((newsOf s t).take i)
    have hlt : ((newsOf s t).take i).length ≤ 5 := by rw [List.length_take]; omega
    rw [sumD_take _ hi]
    generalize sumD ((newsOf s t).take i) = z at *
    have w1 : IntKind.i64.wrap (z + 1) = z + 1 := by rw [IntKind.wrap_i64]; omega
    have w2 : IntKind.i64.wrap (z - 1) = z - 1 := by rw [IntKind.wrap_i64]; omega
    unfold c3_11; dsimp only; rw [wrap_succ (show i < 9223372036854775807 by omega), w1, w2]; refine (bif_pos (Int.ofNat_lt.2 hi)).trans ?_; refine (bif_pos (Int.natCast_nonneg _)).trans ?_; refine (at_step hi).trans ?_; refine (at_step hi).trans ?_
    cases q0 : (gt (newsOf s t) i).1 == 0 with
    | true =>
     have q1 : ((gt (newsOf s t) i).1 == 1) = false := by have := eq_of_beq q0; rw [this]; rfl
     refine (bif_tt rfl).trans ?_; refine (bif_pos (Int.natCast_nonneg _)).trans ?_; refine (at_step hi).trans ?_; refine (at_step hi).trans ?_; refine (bif_ff q1).trans ?_
     unfold delta; rw [q0]; rfl
    | false =>
     refine (bif_ff rfl).trans ?_; refine (bif_pos (Int.natCast_nonneg _)).trans ?_; refine (at_step hi).trans ?_; refine (at_step hi).trans ?_
     cases q1 : (gt (newsOf s t) i).1 == 1 with
     | true => refine (bif_tt rfl).trans ?_; unfold delta; rw [q0, q1]; rfl
     | false => refine (bif_ff rfl).trans ?_; unfold delta; rw [q0, q1]; show rec (z, _) = rec (z + 0, _); rw [Int.add_zero]
   ·show c3_11 (arun p n) fuel b ((s, t, ()), ()) (((newsOf s t, ()), ()), ()) rec (sumD ((newsOf s t).take (newsOf s t).length), (((newsOf s t).length : Nat) : Int)) = _
    rw [List.take_length, hc]
    unfold c3_11; refine (bif_neg (Int.lt_irrefl _)).trans ?_; refine (call_two (h2 n (by omega))).trans ?_; refine (call_step (v1 n (by omega))).trans ?_; refine (call_step (v2 n (by omega))).trans ?_
    have w : IntKind.i64.wrap ((((viewS t).length : Nat) : Int) - (((viewS s).length : Nat) : Int)) = (((viewS t).length : Nat) : Int) - (((viewS s).length : Nat) : Int) := by rw [IntKind.wrap_i64]; omega
    refine (bif_tt (by rw [beq_iff_eq]; exact w)).trans ?_
    refine (call_step (a1 n (by omega))).trans ?_; refine (call_step (a2 n (by omega))).trans ?_
    show oB (((_ : Nat) : Int) == ((_ : Nat) : Int)) = oB true
    rw [beq_self_eq_true]
  exact Ev.eq (fun fuel => by
   unfold T3; refine (call_step (f4 b n (by omega))).trans ?_; refine (bif_neg hb).trans ?_; refine (call_two (h1 n (by omega))).trans ?_; refine (call_step (n1 n (by omega))).trans ?_; refine (call_step (n2 n (by omega))).trans ?_; refine (bif_ff (bne_self_eq_false _)).trans ?_; refine (call_step (o1 n (by omega))).trans ?_; rw [k1]; refine (bif_ff rfl).trans ?_; refine (call_step (o2 n (by omega))).trans ?_; rw [k2]; rfl) (lp.ev (i := ()) rfl)
end Go.Abs.Pz
