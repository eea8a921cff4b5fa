/- What the functions of this program answer, part m. -/
import Derived.Test.YthgekoledembcaaGreatXr0
import Derived.Test.YthgekoledembcaaGreatXr1
import Derived.Test.YthgekoledembcaaGreatW2
set_option linter.unusedVariables false
set_option linter.unusedSimpArgs false
namespace Go.Abs.Gz
open Go Go.Abs
theorem text_ex (k : Int) (h0 : 0 ≤ k) (h1 : k ≤ 9223372036854775807) : ∃ s : ByteArray, Ran p 1 116 [.val false ⟨K3, (k, ())⟩] ⟨[⟨K9, (s, ())⟩], []⟩ := by
 by_cases hk : k ≤ 0
 ·exact ⟨⟨#[109, 48]⟩, go116 fun n hn => Ev.now fun fuel => by unfold T116; exact bif_pos hk⟩
 ·have key : ∀ n : Nat, ∃ r : ByteArray, It (fun fuel (_ : Unit) => c116_4 (arun p n) fuel) (k, (⟨#[]⟩ : ByteArray)) (fun _ => some ⟨[⟨K9, ((r, ()) : Row K9)⟩], []⟩) := fun n => by
   refine text_loop (c := fun fuel (_ : Unit) => c116_4 (arun p n) fuel) (A := K9) (fun s => ((s, ()) : Row K9)) (fun k => bytesOf [(IntKind.u8.wrap (IntKind.i64.wrap (48 + k.tmod 10)), ())]) (fun k => rfl) ⟨#[109]⟩ rfl (fun k s hk hs fuel a rec => ?_) (fun s hs fuel a rec => ?_) 19 k ⟨#[]⟩ h0 (by omega) h1 (by decide)
   ·show c116_4 (arun p n) fuel rec (k, s) = _
    unfold c116_4
    refine (bif_pos hk).trans ?_
    refine (bif_neg (by decide)).trans ?_
    refine (bif_pos hs).trans ?_
    exact bif_neg (by decide)
   ·show c116_4 (arun p n) fuel rec (0, s) = _
    unfold c116_4
    refine (bif_neg (Int.lt_irrefl 0)).trans ?_
    exact bif_pos hs
  obtain ⟨r, hr⟩ := key 0
  have hr' : ∀ n, It (fun fuel (_ : Unit) => c116_4 (arun p n) fuel) (k, (⟨#[]⟩ : ByteArray)) (fun _ => some ⟨[⟨K9, ((r, ()) : Row K9)⟩], []⟩) := fun n => hr
  exact ⟨r, go116 fun n hn => by
   refine Ev.eq (g := fun fuel => iter (c116_4 (arun p n) fuel) fuel (k, (⟨#[]⟩ : ByteArray))) (fun fuel => by unfold T116; exact bif_neg hk) ?_
   exact It.ev (i := ()) (hr' n) rfl⟩
open Classical in
noncomputable def txt (k : Int) : ByteArray := if h : 0 ≤ k ∧ k ≤ 9223372036854775807 then (text_ex k h.1 h.2).choose else ⟨#[]⟩
theorem text_f (k : Int) (h0 : 0 ≤ k) (h1 : k ≤ 9223372036854775807) : Ran p 1 116 [.val false ⟨K3, (k, ())⟩] ⟨[⟨K9, (txt k, ())⟩], []⟩ := by
 have e : txt k = (text_ex k h0 h1).choose := dif_pos ⟨h0, h1⟩
 rw [e]
 exact (text_ex k h0 h1).choose_spec
noncomputable def R23_0 (x : Row K3) (k : Int) : Row K3 := (k, x.2)
theorem mk23 (a0_0 : List (Row K3)) (k : Int) (h0 : 0 ≤ k) (h1 : k + cnT (.sl K3) a0_0 ≤ 4611686018427387904) (hL : LmT (.sl K3) a0_0) : Ran p 1 23 [.own false ⟨K43, (a0_0, ())⟩, .val false ⟨K3, (k, ())⟩] ⟨[⟨K3, (k + cnT (.sl K3) a0_0, ())⟩], [⟨K43, (mkT txt (.sl K3) a0_0 k, ())⟩]⟩ := go23 fun n hn => by
 refine Ev.eq (fun fuel => by unfold T23; rfl) ?_
 refine It.ev (c := fun fuel (_ : Unit) => c23_2 (arun p n) fuel) (i := ()) (r := fun _ => some ⟨[⟨K3, (k + cnT (.sl K3) a0_0, ())⟩], [⟨K43, (mkT txt (.sl K3) a0_0 k, ())⟩]⟩) ?_ rfl
 have hlen : List.length a0_0 ≤ 4611686018427387904 := hL.1
 refine mark_loop (mkR txt K3) (cnR K3) (cnR_nn K3) a0_0 k 4611686018427387904 h0 h1 (fun i k ys => (k, ((i : Int), ys))) (fun i hi ys k hy ha hk hB fuel a rec => ?_) (fun fuel a rec => ?_)
 ·have hb : i < 9223372036854775807 := by omega
  have hx := hL.2 i a0_0[i] (at_lt hi)
  generalize a0_0[i] = x at *
  have hc : cnR K3 x = (1 + 0) := rfl
  have hr : mkR txt K3 x k = ((k, ()) : Row K3) := rfl
  rw [hc] at hB ⊢
  rw [hr]
  have w0 : IntKind.i64.wrap (k + 1) = k + 1 := wrap64 (by omega) (by omega)
  have hy2 : i < ys.length := by rw [hy]; exact hi
  show c23_2 (arun p n) fuel rec (k, ((i : Int), ys)) = rec (k + (1 + 0), (((i + 1 : Nat) : Int), ys.set i (k, ())))
  unfold c23_2; dsimp only; rw [wrap_succ hb]
  have a0 := at_set hy2 (R23_0 x k)
  rw [w0]
  refine (bif_pos (Int.ofNat_lt.2 hy2)).trans ?_
  refine (bif_pos (Int.natCast_nonneg _)).trans ?_
  refine (at_known ha).trans ?_
  refine (at_known ha).trans ?_
  refine (setV_to (List.set ys i (R23_0 x k)) set_one).trans ?_
  have hfin : k + (1 + 0) = k + 1 := by omega
  rw [hfin]
  first | done | rfl
 ·show c23_2 (arun p n) fuel rec (k + cnT (.sl K3) a0_0, (((List.length a0_0 : Nat) : Int), mkT txt (.sl K3) a0_0 k)) = _
  have hlm : List.length (mkT txt (.sl K3) a0_0 k) = List.length a0_0 := foldMk_length _ _
  unfold c23_2; simp only [hlm, dec_end, cond_false]
theorem hd24 (a0_0 : List (Row K3)) (k : Int) (h0 : 0 ≤ k) (h1 : k + cnT (.sl K3) a0_0 ≤ 4611686018427387904) (hL : LmT (.sl K3) a0_0) : Ran p 1 24 [.val false ⟨K43, (mkT txt (.sl K3) a0_0 k, ())⟩, .val false ⟨K3, (k, ())⟩] ⟨[⟨K3, (k + cnT (.sl K3) a0_0, ())⟩], []⟩ := go24 fun n hn => by
 refine Ev.eq (fun fuel => by unfold T24; rfl) ?_
 refine It.ev (c := fun fuel (_ : Unit) => c24_2 (arun p n) fuel (mkT txt (.sl K3) a0_0 k)) (i := ()) (r := fun _ => some ⟨[⟨K3, (k + cnT (.sl K3) a0_0, ())⟩], []⟩) ?_ rfl
 have hlen : List.length a0_0 ≤ 4611686018427387904 := hL.1
 refine held_loop (mkR txt K3) (cnR K3) (cnR_nn K3) a0_0 k 4611686018427387904 h0 h1 (fun i k => (k, (i : Int))) (fun i hi q hi2 ha hk hB fuel a rec => ?_) (fun fuel a rec => ?_)
 ·have hb : i < 9223372036854775807 := by omega
  have hx := hL.2 i a0_0[i] (at_lt hi)
  generalize a0_0[i] = x at *
  have hc : cnR K3 x = (1 + 0) := rfl
  have hr : mkR txt K3 x q = ((q, ()) : Row K3) := rfl
  rw [hc] at hB ⊢
  rw [hr] at ha
  have w0 : IntKind.i64.wrap (q + 1) = q + 1 := wrap64 (by omega) (by omega)
  show c24_2 (arun p n) fuel (mkT txt (.sl K3) a0_0 k) rec (q, (i : Int)) = rec (q + (1 + 0), ((i + 1 : Nat) : Int))
  replace hi2 : i < List.length (mkT txt (.sl K3) a0_0 k) := hi2
  replace ha : at? (mkT txt (.sl K3) a0_0 k) i = some ((q, ()) : Row K3) := ha
  generalize mkT txt (.sl K3) a0_0 k = L at *
  unfold c24_2; dsimp only; rw [wrap_succ hb]
  rw [w0]
  refine (bif_pos (Int.ofNat_lt.2 hi2)).trans ?_
  refine (bif_pos (Int.natCast_nonneg _)).trans ?_
  refine (at_known ha).trans ?_
  refine (bif_ff (bne_self_eq_false _)).trans ?_
  have hfin : q + (1 + 0) = q + 1 := by omega
  rw [hfin]
  first | done | rfl
 ·show c24_2 (arun p n) fuel (mkT txt (.sl K3) a0_0 k) rec (k + cnT (.sl K3) a0_0, ((List.length (mkT txt (.sl K3) a0_0 k) : Nat) : Int)) = _
  unfold c24_2; simp only [dec_end, cond_false]
noncomputable def R65_0 (x : Row K143) (k : Int) : Row K143 := (k, x.2)
noncomputable def R65_1 (x : Row K143) (k : Int) : Row K143 := (k, k + 1, x.2.2)
theorem mk65 (a0_0 : List (Row K143)) (k : Int) (h0 : 0 ≤ k) (h1 : k + cnT (.sl K143) a0_0 ≤ 4611686018427387904) (hL : LmT (.sl K143) a0_0) : Ran p 1 65 [.own false ⟨K47, (a0_0, ())⟩, .val false ⟨K3, (k, ())⟩] ⟨[⟨K3, (k + cnT (.sl K143) a0_0, ())⟩], [⟨K47, (mkT txt (.sl K143) a0_0 k, ())⟩]⟩ := go65 fun n hn => by
 refine Ev.eq (fun fuel => by unfold T65; rfl) ?_
 refine It.ev (c := fun fuel (_ : Unit) => c65_2 (arun p n) fuel) (i := ()) (r := fun _ => some ⟨[⟨K3, (k + cnT (.sl K143) a0_0, ())⟩], [⟨K47, (mkT txt (.sl K143) a0_0 k, ())⟩]⟩) ?_ rfl
 have hlen : List.length a0_0 ≤ 4611686018427387904 := hL.1
 refine mark_loop (mkR txt K143) (cnR K143) (cnR_nn K143) a0_0 k 4611686018427387904 h0 h1 (fun i k ys => (k, ((i : Int), ys))) (fun i hi ys k hy ha hk hB fuel a rec => ?_) (fun fuel a rec => ?_)
 ·have hb : i < 9223372036854775807 := by omega
  have hx := hL.2 i a0_0[i] (at_lt hi)
  generalize a0_0[i] = x at *
  have hc : cnR K143 x = (1 + (1 + 0)) := rfl
  have hr : mkR txt K143 x k = ((k, k + 1, ()) : Row K143) := rfl
  rw [hc] at hB ⊢
  rw [hr]
  have w0 : IntKind.i64.wrap (k + 1) = k + 1 := wrap64 (by omega) (by omega)
  have w1 : IntKind.i64.wrap (k + 1 + 1) = k + 1 + 1 := wrap64 (by omega) (by omega)
  have hy2 : i < ys.length := by rw [hy]; exact hi
  show c65_2 (arun p n) fuel rec (k, ((i : Int), ys)) = rec (k + (1 + (1 + 0)), (((i + 1 : Nat) : Int), ys.set i (k, k + 1, ())))
  unfold c65_2; dsimp only; rw [wrap_succ hb]
  have a0 := at_set hy2 (R65_0 x k)
  have a1 := at_set hy2 (R65_1 x k)
  rw [w0]
  rw [w1]
  refine (bif_pos (Int.ofNat_lt.2 hy2)).trans ?_
  refine (bif_pos (Int.natCast_nonneg _)).trans ?_
  refine (at_known ha).trans ?_
  refine (at_known ha).trans ?_
  refine (setV_to (List.set ys i (R65_0 x k)) set_one).trans ?_
  refine (bif_pos (Int.natCast_nonneg _)).trans ?_
  refine (at_known a0).trans ?_
  refine (at_known a0).trans ?_
  refine (setV_to (List.set ys i (R65_1 x k)) set_set').trans ?_
  have hfin : k + (1 + (1 + 0)) = k + 1 + 1 := by omega
  rw [hfin]
  first | done | rfl
 ·show c65_2 (arun p n) fuel rec (k + cnT (.sl K143) a0_0, (((List.length a0_0 : Nat) : Int), mkT txt (.sl K143) a0_0 k)) = _
  have hlm : List.length (mkT txt (.sl K143) a0_0 k) = List.length a0_0 := foldMk_length _ _
  unfold c65_2; simp only [hlm, dec_end, cond_false]
theorem hd69 (a0_0 : List (Row K143)) (k : Int) (h0 : 0 ≤ k) (h1 : k + cnT (.sl K143) a0_0 ≤ 4611686018427387904) (hL : LmT (.sl K143) a0_0) : Ran p 1 69 [.val false ⟨K47, (mkT txt (.sl K143) a0_0 k, ())⟩, .val false ⟨K3, (k, ())⟩] ⟨[⟨K3, (k + cnT (.sl K143) a0_0, ())⟩], []⟩ := go69 fun n hn => by
 refine Ev.eq (fun fuel => by unfold T69; rfl) ?_
 refine It.ev (c := fun fuel (_ : Unit) => c69_2 (arun p n) fuel (mkT txt (.sl K143) a0_0 k)) (i := ()) (r := fun _ => some ⟨[⟨K3, (k + cnT (.sl K143) a0_0, ())⟩], []⟩) ?_ rfl
 have hlen : List.length a0_0 ≤ 4611686018427387904 := hL.1
 refine held_loop (mkR txt K143) (cnR K143) (cnR_nn K143) a0_0 k 4611686018427387904 h0 h1 (fun i k => (k, (i : Int))) (fun i hi q hi2 ha hk hB fuel a rec => ?_) (fun fuel a rec => ?_)
 ·have hb : i < 9223372036854775807 := by omega
  have hx := hL.2 i a0_0[i] (at_lt hi)
  generalize a0_0[i] = x at *
  have hc : cnR K143 x = (1 + (1 + 0)) := rfl
  have hr : mkR txt K143 x q = ((q, q + 1, ()) : Row K143) := rfl
  rw [hc] at hB ⊢
  rw [hr] at ha
  have w0 : IntKind.i64.wrap (q + 1) = q + 1 := wrap64 (by omega) (by omega)
  have w1 : IntKind.i64.wrap (q + 1 + 1) = q + 1 + 1 := wrap64 (by omega) (by omega)
  show c69_2 (arun p n) fuel (mkT txt (.sl K143) a0_0 k) rec (q, (i : Int)) = rec (q + (1 + (1 + 0)), ((i + 1 : Nat) : Int))
  replace hi2 : i < List.length (mkT txt (.sl K143) a0_0 k) := hi2
  replace ha : at? (mkT txt (.sl K143) a0_0 k) i = some ((q, q + 1, ()) : Row K143) := ha
  generalize mkT txt (.sl K143) a0_0 k = L at *
  unfold c69_2; dsimp only; rw [wrap_succ hb]
  rw [w0]
  rw [w1]
  refine (bif_pos (Int.ofNat_lt.2 hi2)).trans ?_
  refine (bif_pos (Int.natCast_nonneg _)).trans ?_
  refine (at_known ha).trans ?_
  refine (bif_ff (bne_self_eq_false _)).trans ?_
  refine (bif_pos (Int.natCast_nonneg _)).trans ?_
  refine (at_known ha).trans ?_
  refine (bif_ff (bne_self_eq_false _)).trans ?_
  have hfin : q + (1 + (1 + 0)) = q + 1 + 1 := by omega
  rw [hfin]
  first | done | rfl
 ·show c69_2 (arun p n) fuel (mkT txt (.sl K143) a0_0 k) rec (k + cnT (.sl K143) a0_0, ((List.length (mkT txt (.sl K143) a0_0 k) : Nat) : Int)) = _
  unfold c69_2; simp only [dec_end, cond_false]
noncomputable def R88_0 (x : Row K163) (k : Int) : Row K163 := (k, x.2)
noncomputable def R88_1 (x : Row K163) (k : Int) : Row K163 := (k, k + 1, x.2.2)
noncomputable def R88_2 (x : Row K163) (k : Int) : Row K163 := (k, k + 1, ((k + 1 + 1).tmod 3 == 0), x.2.2.2)
noncomputable def R88_3 (x : Row K163) (k : Int) : Row K163 := (k, k + 1, ((k + 1 + 1).tmod 3 == 0), k + 1 + 1 + 1, x.2.2.2.2)
theorem mk88 (a0_0 : List (Row K163)) (k : Int) (h0 : 0 ≤ k) (h1 : k + cnT (.sl K163) a0_0 ≤ 4611686018427387904) (hL : LmT (.sl K163) a0_0) : Ran p 1 88 [.own false ⟨K70, (a0_0, ())⟩, .val false ⟨K3, (k, ())⟩] ⟨[⟨K3, (k + cnT (.sl K163) a0_0, ())⟩], [⟨K70, (mkT txt (.sl K163) a0_0 k, ())⟩]⟩ := go88 fun n hn => by
 refine Ev.eq (fun fuel => by unfold T88; rfl) ?_
 refine It.ev (c := fun fuel (_ : Unit) => c88_2 (arun p n) fuel) (i := ()) (r := fun _ => some ⟨[⟨K3, (k + cnT (.sl K163) a0_0, ())⟩], [⟨K70, (mkT txt (.sl K163) a0_0 k, ())⟩]⟩) ?_ rfl
 have hlen : List.length a0_0 ≤ 4611686018427387904 := hL.1
 refine mark_loop (mkR txt K163) (cnR K163) (cnR_nn K163) a0_0 k 4611686018427387904 h0 h1 (fun i k ys => (k, ((i : Int), ys))) (fun i hi ys k hy ha hk hB fuel a rec => ?_) (fun fuel a rec => ?_)
 ·have hb : i < 9223372036854775807 := by omega
  have hx := hL.2 i a0_0[i] (at_lt hi)
  generalize a0_0[i] = x at *
  have hc : cnR K163 x = (1 + (1 + (1 + (1 + 0)))) := rfl
  have hr : mkR txt K163 x k = ((k, k + 1, ((k + 1 + 1).tmod 3 == 0), k + 1 + 1 + 1, ()) : Row K163) := rfl
  rw [hc] at hB ⊢
  rw [hr]
  have w0 : IntKind.i64.wrap (k + 1) = k + 1 := wrap64 (by omega) (by omega)
  have w1 : IntKind.i64.wrap (k + 1 + 1) = k + 1 + 1 := wrap64 (by omega) (by omega)
  have w2 : IntKind.i64.wrap (k + 1 + 1 + 1) = k + 1 + 1 + 1 := wrap64 (by omega) (by omega)
  have w3 : IntKind.i64.wrap (k + 1 + 1 + 1 + 1) = k + 1 + 1 + 1 + 1 := wrap64 (by omega) (by omega)
  have hy2 : i < ys.length := by rw [hy]; exact hi
  show c88_2 (arun p n) fuel rec (k, ((i : Int), ys)) = rec (k + (1 + (1 + (1 + (1 + 0)))), (((i + 1 : Nat) : Int), ys.set i (k, k + 1, ((k + 1 + 1).tmod 3 == 0), k + 1 + 1 + 1, ())))
  unfold c88_2; dsimp only; rw [wrap_succ hb]
  have a0 := at_set hy2 (R88_0 x k)
  have a1 := at_set hy2 (R88_1 x k)
  have a2 := at_set hy2 (R88_2 x k)
  have a3 := at_set hy2 (R88_3 x k)
  rw [w0]
  rw [w1]
  rw [w2]
  rw [w3]
  refine (bif_pos (Int.ofNat_lt.2 hy2)).trans ?_
  refine (bif_pos (Int.natCast_nonneg _)).trans ?_
  refine (at_known ha).trans ?_
  refine (at_known ha).trans ?_
  refine (setV_to (List.set ys i (R88_0 x k)) set_one).trans ?_
  refine (bif_pos (Int.natCast_nonneg _)).trans ?_
  refine (at_known a0).trans ?_
  refine (at_known a0).trans ?_
  refine (setV_to (List.set ys i (R88_1 x k)) set_set').trans ?_
  refine (bif_neg (by decide)).trans ?_
  refine (bif_pos (Int.natCast_nonneg _)).trans ?_
  refine (at_known a1).trans ?_
  refine (at_known a1).trans ?_
  refine (setV_to (List.set ys i (R88_2 x k)) set_set').trans ?_
  refine (bif_pos (Int.natCast_nonneg _)).trans ?_
  refine (at_known a2).trans ?_
  refine (at_known a2).trans ?_
  refine (setV_to (List.set ys i (R88_3 x k)) set_set').trans ?_
  have hfin : k + (1 + (1 + (1 + (1 + 0)))) = k + 1 + 1 + 1 + 1 := by omega
  rw [hfin]
  first | done | rfl
 ·show c88_2 (arun p n) fuel rec (k + cnT (.sl K163) a0_0, (((List.length a0_0 : Nat) : Int), mkT txt (.sl K163) a0_0 k)) = _
  have hlm : List.length (mkT txt (.sl K163) a0_0 k) = List.length a0_0 := foldMk_length _ _
  unfold c88_2; simp only [hlm, dec_end, cond_false]
noncomputable def R89_0 (x : Row K171) (k : Int) : Row K171 := (k, x.2)
noncomputable def R89_1 (x : Row K171) (k : Int) : Row K171 := (k, k + 1, x.2.2)
noncomputable def R89_2 (x : Row K171) (k : Int) : Row K171 := (k, k + 1, k + 1 + 1, x.2.2.2)
theorem mk89 (a0_0 : List (Row K171)) (k : Int) (h0 : 0 ≤ k) (h1 : k + cnT (.sl K171) a0_0 ≤ 4611686018427387904) (hL : LmT (.sl K171) a0_0) : Ran p 1 89 [.own false ⟨K71, (a0_0, ())⟩, .val false ⟨K3, (k, ())⟩] ⟨[⟨K3, (k + cnT (.sl K171) a0_0, ())⟩], [⟨K71, (mkT txt (.sl K171) a0_0 k, ())⟩]⟩ := go89 fun n hn => by
 refine Ev.eq (fun fuel => by unfold T89; rfl) ?_
 refine It.ev (c := fun fuel (_ : Unit) => c89_2 (arun p n) fuel) (i := ()) (r := fun _ => some ⟨[⟨K3, (k + cnT (.sl K171) a0_0, ())⟩], [⟨K71, (mkT txt (.sl K171) a0_0 k, ())⟩]⟩) ?_ rfl
 have hlen : List.length a0_0 ≤ 4611686018427387904 := hL.1
 refine mark_loop (mkR txt K171) (cnR K171) (cnR_nn K171) a0_0 k 4611686018427387904 h0 h1 (fun i k ys => (k, ((i : Int), ys))) (fun i hi ys k hy ha hk hB fuel a rec => ?_) (fun fuel a rec => ?_)
 ·have hb : i < 9223372036854775807 := by omega
  have hx := hL.2 i a0_0[i] (at_lt hi)
  generalize a0_0[i] = x at *
  have hc : cnR K171 x = (1 + (1 + (1 + 0))) := rfl
  have hr : mkR txt K171 x k = ((k, k + 1, k + 1 + 1, ()) : Row K171) := rfl
  rw [hc] at hB ⊢
  rw [hr]
  have w0 : IntKind.i64.wrap (k + 1) = k + 1 := wrap64 (by omega) (by omega)
  have w1 : IntKind.i64.wrap (k + 1 + 1) = k + 1 + 1 := wrap64 (by omega) (by omega)
  have w2 : IntKind.i64.wrap (k + 1 + 1 + 1) = k + 1 + 1 + 1 := wrap64 (by omega) (by omega)
  have hy2 : i < ys.length := by rw [hy]; exact hi
  show c89_2 (arun p n) fuel rec (k, ((i : Int), ys)) = rec (k + (1 + (1 + (1 + 0))), (((i + 1 : Nat) : Int), ys.set i (k, k + 1, k + 1 + 1, ())))
  unfold c89_2; dsimp only; rw [wrap_succ hb]
  have a0 := at_set hy2 (R89_0 x k)
  have a1 := at_set hy2 (R89_1 x k)
  have a2 := at_set hy2 (R89_2 x k)
  rw [w0]
  rw [w1]
  rw [w2]
  refine (bif_pos (Int.ofNat_lt.2 hy2)).trans ?_
  refine (bif_pos (Int.natCast_nonneg _)).trans ?_
  refine (at_known ha).trans ?_
  refine (at_known ha).trans ?_
  refine (setV_to (List.set ys i (R89_0 x k)) set_one).trans ?_
  refine (bif_pos (Int.natCast_nonneg _)).trans ?_
  refine (at_known a0).trans ?_
  refine (at_known a0).trans ?_
  refine (setV_to (List.set ys i (R89_1 x k)) set_set').trans ?_
  refine (bif_pos (Int.natCast_nonneg _)).trans ?_
  refine (at_known a1).trans ?_
  refine (at_known a1).trans ?_
  refine (setV_to (List.set ys i (R89_2 x k)) set_set').trans ?_
  have hfin : k + (1 + (1 + (1 + 0))) = k + 1 + 1 + 1 := by omega
  rw [hfin]
  first | done | rfl
 ·show c89_2 (arun p n) fuel rec (k + cnT (.sl K171) a0_0, (((List.length a0_0 : Nat) : Int), mkT txt (.sl K171) a0_0 k)) = _
  have hlm : List.length (mkT txt (.sl K171) a0_0 k) = List.length a0_0 := foldMk_length _ _
  unfold c89_2; simp only [hlm, dec_end, cond_false]
noncomputable def R90_0 (x : Row K5) (k : Int) : Row K5 := ((IntKind.u8.wrap (k)), x.2)
theorem mk90 (a0_0 : List (Row K5)) (k : Int) (h0 : 0 ≤ k) (h1 : k + cnT (.sl K5) a0_0 ≤ 4611686018427387904) (hL : LmT (.sl K5) a0_0) : Ran p 1 90 [.own false ⟨K106, (a0_0, ())⟩, .val false ⟨K3, (k, ())⟩] ⟨[⟨K3, (k + cnT (.sl K5) a0_0, ())⟩], [⟨K106, (mkT txt (.sl K5) a0_0 k, ())⟩]⟩ := go90 fun n hn => by
 refine Ev.eq (fun fuel => by unfold T90; rfl) ?_
 refine It.ev (c := fun fuel (_ : Unit) => c90_2 (arun p n) fuel) (i := ()) (r := fun _ => some ⟨[⟨K3, (k + cnT (.sl K5) a0_0, ())⟩], [⟨K106, (mkT txt (.sl K5) a0_0 k, ())⟩]⟩) ?_ rfl
 have hlen : List.length a0_0 ≤ 4611686018427387904 := hL.1
 refine mark_loop (mkR txt K5) (cnR K5) (cnR_nn K5) a0_0 k 4611686018427387904 h0 h1 (fun i k ys => (k, ((i : Int), ys))) (fun i hi ys k hy ha hk hB fuel a rec => ?_) (fun fuel a rec => ?_)
 ·have hb : i < 9223372036854775807 := by omega
  have hx := hL.2 i a0_0[i] (at_lt hi)
  generalize a0_0[i] = x at *
  have hc : cnR K5 x = (1 + 0) := rfl
  have hr : mkR txt K5 x k = (((IntKind.u8.wrap (k)), ()) : Row K5) := rfl
  rw [hc] at hB ⊢
  rw [hr]
  have w0 : IntKind.i64.wrap (k + 1) = k + 1 := wrap64 (by omega) (by omega)
  have hy2 : i < ys.length := by rw [hy]; exact hi
  show c90_2 (arun p n) fuel rec (k, ((i : Int), ys)) = rec (k + (1 + 0), (((i + 1 : Nat) : Int), ys.set i ((IntKind.u8.wrap (k)), ())))
  unfold c90_2; dsimp only; rw [wrap_succ hb]
  have a0 := at_set hy2 (R90_0 x k)
  rw [w0]
  refine (bif_pos (Int.ofNat_lt.2 hy2)).trans ?_
  refine (bif_pos (Int.natCast_nonneg _)).trans ?_
  refine (at_known ha).trans ?_
  refine (at_known ha).trans ?_
  refine (setV_to (List.set ys i (R90_0 x k)) set_one).trans ?_
  have hfin : k + (1 + 0) = k + 1 := by omega
  rw [hfin]
  first | done | rfl
 ·show c90_2 (arun p n) fuel rec (k + cnT (.sl K5) a0_0, (((List.length a0_0 : Nat) : Int), mkT txt (.sl K5) a0_0 k)) = _
  have hlm : List.length (mkT txt (.sl K5) a0_0 k) = List.length a0_0 := foldMk_length _ _
  unfold c90_2; simp only [hlm, dec_end, cond_false]
theorem hd93 (a0_0 : List (Row K163)) (k : Int) (h0 : 0 ≤ k) (h1 : k + cnT (.sl K163) a0_0 ≤ 4611686018427387904) (hL : LmT (.sl K163) a0_0) : Ran p 1 93 [.val false ⟨K70, (mkT txt (.sl K163) a0_0 k, ())⟩, .val false ⟨K3, (k, ())⟩] ⟨[⟨K3, (k + cnT (.sl K163) a0_0, ())⟩], []⟩ := go93 fun n hn => by
 refine Ev.eq (fun fuel => by unfold T93; rfl) ?_
 refine It.ev (c := fun fuel (_ : Unit) => c93_2 (arun p n) fuel (mkT txt (.sl K163) a0_0 k)) (i := ()) (r := fun _ => some ⟨[⟨K3, (k + cnT (.sl K163) a0_0, ())⟩], []⟩) ?_ rfl
 have hlen : List.length a0_0 ≤ 4611686018427387904 := hL.1
 refine held_loop (mkR txt K163) (cnR K163) (cnR_nn K163) a0_0 k 4611686018427387904 h0 h1 (fun i k => (k, (i : Int))) (fun i hi q hi2 ha hk hB fuel a rec => ?_) (fun fuel a rec => ?_)
 ·have hb : i < 9223372036854775807 := by omega
  have hx := hL.2 i a0_0[i] (at_lt hi)
  generalize a0_0[i] = x at *
  have hc : cnR K163 x = (1 + (1 + (1 + (1 + 0)))) := rfl
  have hr : mkR txt K163 x q = ((q, q + 1, ((q + 1 + 1).tmod 3 == 0), q + 1 + 1 + 1, ()) : Row K163) := rfl
  rw [hc] at hB ⊢
  rw [hr] at ha
  have w0 : IntKind.i64.wrap (q + 1) = q + 1 := wrap64 (by omega) (by omega)
  have w1 : IntKind.i64.wrap (q + 1 + 1) = q + 1 + 1 := wrap64 (by omega) (by omega)
  have w2 : IntKind.i64.wrap (q + 1 + 1 + 1) = q + 1 + 1 + 1 := wrap64 (by omega) (by omega)
  have w3 : IntKind.i64.wrap (q + 1 + 1 + 1 + 1) = q + 1 + 1 + 1 + 1 := wrap64 (by omega) (by omega)
  show c93_2 (arun p n) fuel (mkT txt (.sl K163) a0_0 k) rec (q, (i : Int)) = rec (q + (1 + (1 + (1 + (1 + 0)))), ((i + 1 : Nat) : Int))
  replace hi2 : i < List.length (mkT txt (.sl K163) a0_0 k) := hi2
  replace ha : at? (mkT txt (.sl K163) a0_0 k) i = some ((q, q + 1, ((q + 1 + 1).tmod 3 == 0), q + 1 + 1 + 1, ()) : Row K163) := ha
  generalize mkT txt (.sl K163) a0_0 k = L at *
  unfold c93_2; dsimp only; rw [wrap_succ hb]
  rw [w0]
  rw [w1]
  rw [w2]
  rw [w3]
  refine (bif_pos (Int.ofNat_lt.2 hi2)).trans ?_
  refine (bif_pos (Int.natCast_nonneg _)).trans ?_
  refine (at_known ha).trans ?_
  refine (bif_ff (bne_self_eq_false _)).trans ?_
  refine (bif_pos (Int.natCast_nonneg _)).trans ?_
  refine (at_known ha).trans ?_
  refine (bif_ff (bne_self_eq_false _)).trans ?_
  refine (bif_pos (Int.natCast_nonneg _)).trans ?_
  refine (at_known ha).trans ?_
  refine (bif_neg (by decide)).trans ?_
  refine (bif_ff (show (!(beqB ((q + 1 + 1).tmod 3 == 0) ((q + 1 + 1).tmod 3 == 0))) = false by rw [beqB_self]; rfl)).trans ?_
  refine (bif_pos (Int.natCast_nonneg _)).trans ?_
  refine (at_known ha).trans ?_
  refine (bif_ff (bne_self_eq_false _)).trans ?_
  have hfin : q + (1 + (1 + (1 + (1 + 0)))) = q + 1 + 1 + 1 + 1 := by omega
  rw [hfin]
  first | done | rfl
 ·show c93_2 (arun p n) fuel (mkT txt (.sl K163) a0_0 k) rec (k + cnT (.sl K163) a0_0, ((List.length (mkT txt (.sl K163) a0_0 k) : Nat) : Int)) = _
  unfold c93_2; simp only [dec_end, cond_false]
theorem hd94 (a0_0 : List (Row K171)) (k : Int) (h0 : 0 ≤ k) (h1 : k + cnT (.sl K171) a0_0 ≤ 4611686018427387904) (hL : LmT (.sl K171) a0_0) : Ran p 1 94 [.val false ⟨K71, (mkT txt (.sl K171) a0_0 k, ())⟩, .val false ⟨K3, (k, ())⟩] ⟨[⟨K3, (k + cnT (.sl K171) a0_0, ())⟩], []⟩ := go94 fun n hn => by
 refine Ev.eq (fun fuel => by unfold T94; rfl) ?_
 refine It.ev (c := fun fuel (_ : Unit) => c94_2 (arun p n) fuel (mkT txt (.sl K171) a0_0 k)) (i := ()) (r := fun _ => some ⟨[⟨K3, (k + cnT (.sl K171) a0_0, ())⟩], []⟩) ?_ rfl
 have hlen : List.length a0_0 ≤ 4611686018427387904 := hL.1
 refine held_loop (mkR txt K171) (cnR K171) (cnR_nn K171) a0_0 k 4611686018427387904 h0 h1 (fun i k => (k, (i : Int))) (fun i hi q hi2 ha hk hB fuel a rec => ?_) (fun fuel a rec => ?_)
 ·have hb : i < 9223372036854775807 := by omega
  have hx := hL.2 i a0_0[i] (at_lt hi)
  generalize a0_0[i] = x at *
  have hc : cnR K171 x = (1 + (1 + (1 + 0))) := rfl
  have hr : mkR txt K171 x q = ((q, q + 1, q + 1 + 1, ()) : Row K171) := rfl
  rw [hc] at hB ⊢
  rw [hr] at ha
  have w0 : IntKind.i64.wrap (q + 1) = q + 1 := wrap64 (by omega) (by omega)
  have w1 : IntKind.i64.wrap (q + 1 + 1) = q + 1 + 1 := wrap64 (by omega) (by omega)
  have w2 : IntKind.i64.wrap (q + 1 + 1 + 1) = q + 1 + 1 + 1 := wrap64 (by omega) (by omega)
  show c94_2 (arun p n) fuel (mkT txt (.sl K171) a0_0 k) rec (q, (i : Int)) = rec (q + (1 + (1 + (1 + 0))), ((i + 1 : Nat) : Int))
  replace hi2 : i < List.length (mkT txt (.sl K171) a0_0 k) := hi2
  replace ha : at? (mkT txt (.sl K171) a0_0 k) i = some ((q, q + 1, q + 1 + 1, ()) : Row K171) := ha
  generalize mkT txt (.sl K171) a0_0 k = L at *
  unfold c94_2; dsimp only; rw [wrap_succ hb]
  rw [w0]
  rw [w1]
  rw [w2]
  refine (bif_pos (Int.ofNat_lt.2 hi2)).trans ?_
  refine (bif_pos (Int.natCast_nonneg _)).trans ?_
  refine (at_known ha).trans ?_
  refine (bif_ff (bne_self_eq_false _)).trans ?_
  refine (bif_pos (Int.natCast_nonneg _)).trans ?_
  refine (at_known ha).trans ?_
  refine (bif_ff (bne_self_eq_false _)).trans ?_
  refine (bif_pos (Int.natCast_nonneg _)).trans ?_
  refine (at_known ha).trans ?_
  refine (bif_ff (bne_self_eq_false _)).trans ?_
  have hfin : q + (1 + (1 + (1 + 0))) = q + 1 + 1 + 1 := by omega
  rw [hfin]
  first | done | rfl
 ·show c94_2 (arun p n) fuel (mkT txt (.sl K171) a0_0 k) rec (k + cnT (.sl K171) a0_0, ((List.length (mkT txt (.sl K171) a0_0 k) : Nat) : Int)) = _
  unfold c94_2; simp only [dec_end, cond_false]
theorem hd95 (a0_0 : List (Row K5)) (k : Int) (h0 : 0 ≤ k) (h1 : k + cnT (.sl K5) a0_0 ≤ 4611686018427387904) (hL : LmT (.sl K5) a0_0) : Ran p 1 95 [.val false ⟨K106, (mkT txt (.sl K5) a0_0 k, ())⟩, .val false ⟨K3, (k, ())⟩] ⟨[⟨K3, (k + cnT (.sl K5) a0_0, ())⟩], []⟩ := go95 fun n hn => by
 refine Ev.eq (fun fuel => by unfold T95; rfl) ?_
 refine It.ev (c := fun fuel (_ : Unit) => c95_2 (arun p n) fuel (mkT txt (.sl K5) a0_0 k)) (i := ()) (r := fun _ => some ⟨[⟨K3, (k + cnT (.sl K5) a0_0, ())⟩], []⟩) ?_ rfl
 have hlen : List.length a0_0 ≤ 4611686018427387904 := hL.1
 refine held_loop (mkR txt K5) (cnR K5) (cnR_nn K5) a0_0 k 4611686018427387904 h0 h1 (fun i k => (k, (i : Int))) (fun i hi q hi2 ha hk hB fuel a rec => ?_) (fun fuel a rec => ?_)
 ·have hb : i < 9223372036854775807 := by omega
  have hx := hL.2 i a0_0[i] (at_lt hi)
  generalize a0_0[i] = x at *
  have hc : cnR K5 x = (1 + 0) := rfl
  have hr : mkR txt K5 x q = (((IntKind.u8.wrap (q)), ()) : Row K5) := rfl
  rw [hc] at hB ⊢
  rw [hr] at ha
  have w0 : IntKind.i64.wrap (q + 1) = q + 1 := wrap64 (by omega) (by omega)
  show c95_2 (arun p n) fuel (mkT txt (.sl K5) a0_0 k) rec (q, (i : Int)) = rec (q + (1 + 0), ((i + 1 : Nat) : Int))
  replace hi2 : i < List.length (mkT txt (.sl K5) a0_0 k) := hi2
  replace ha : at? (mkT txt (.sl K5) a0_0 k) i = some (((IntKind.u8.wrap (q)), ()) : Row K5) := ha
  generalize mkT txt (.sl K5) a0_0 k = L at *
  unfold c95_2; dsimp only; rw [wrap_succ hb]
  rw [w0]
  refine (bif_pos (Int.ofNat_lt.2 hi2)).trans ?_
  refine (bif_pos (Int.natCast_nonneg _)).trans ?_
  refine (at_known ha).trans ?_
  refine (bif_ff (bne_self_eq_false _)).trans ?_
  have hfin : q + (1 + 0) = q + 1 := by omega
  rw [hfin]
  first | done | rfl
 ·show c95_2 (arun p n) fuel (mkT txt (.sl K5) a0_0 k) rec (k + cnT (.sl K5) a0_0, ((List.length (mkT txt (.sl K5) a0_0 k) : Nat) : Int)) = _
  unfold c95_2; simp only [dec_end, cond_false]
noncomputable def R43_0 (x : Row K108) (k : Int) : Row K108 := (k, x.2)
noncomputable def R43_1 (x : Row K108) (k : Int) : Row K108 := (k, mkT txt (.sl K5) x.2.1 (k + 1), x.2.2)
noncomputable def R43_2 (x : Row K108) (k : Int) : Row K108 := (k, mkT txt (.sl K5) x.2.1 (k + 1), ((k + 1 + cnT (.sl K5) x.2.1).tmod 3 == 0), x.2.2.2)
theorem mk43 (a0_0 : List (Row K108)) (k : Int) (h0 : 0 ≤ k) (h1 : k + cnT (.sl K108) a0_0 ≤ 4611686018427387904) (hL : LmT (.sl K108) a0_0) : Ran p 2 43 [.own false ⟨K23, (a0_0, ())⟩, .val false ⟨K3, (k, ())⟩] ⟨[⟨K3, (k + cnT (.sl K108) a0_0, ())⟩], [⟨K23, (mkT txt (.sl K108) a0_0 k, ())⟩]⟩ := go43 fun n hn => by
 refine Ev.eq (fun fuel => by unfold T43; rfl) ?_
 refine It.ev (c := fun fuel (_ : Unit) => c43_2 (arun p n) fuel) (i := ()) (r := fun _ => some ⟨[⟨K3, (k + cnT (.sl K108) a0_0, ())⟩], [⟨K23, (mkT txt (.sl K108) a0_0 k, ())⟩]⟩) ?_ rfl
 have hlen : List.length a0_0 ≤ 4611686018427387904 := hL.1
 refine mark_loop (mkR txt K108) (cnR K108) (cnR_nn K108) a0_0 k 4611686018427387904 h0 h1 (fun i k ys => (k, ((i : Int), ys))) (fun i hi ys k hy ha hk hB fuel a rec => ?_) (fun fuel a rec => ?_)
 ·have hb : i < 9223372036854775807 := by omega
  have hx := hL.2 i a0_0[i] (at_lt hi)
  generalize a0_0[i] = x at *
  have hc : cnR K108 x = (1 + (cnT (.sl K5) x.2.1 + (1 + 0))) := rfl
  have hr : mkR txt K108 x k = ((k, mkT txt (.sl K5) x.2.1 (k + 1), ((k + 1 + cnT (.sl K5) x.2.1).tmod 3 == 0), ()) : Row K108) := rfl
  rw [hc] at hB ⊢
  rw [hr]
  have n1 := cnT_nn (.sl K5) x.2.1
  have f1 := mk90 x.2.1 (k + 1) (by omega) (by omega) (show LmT (.sl K5) x.2.1 from hx.2.1) n (by omega)
  have w0 : IntKind.i64.wrap (k + 1) = k + 1 := wrap64 (by omega) (by omega)
  have w2 : IntKind.i64.wrap (k + 1 + cnT (.sl K5) x.2.1 + 1) = k + 1 + cnT (.sl K5) x.2.1 + 1 := wrap64 (by omega) (by omega)
  have hy2 : i < ys.length := by rw [hy]; exact hi
  show c43_2 (arun p n) fuel rec (k, ((i : Int), ys)) = rec (k + (1 + (cnT (.sl K5) x.2.1 + (1 + 0))), (((i + 1 : Nat) : Int), ys.set i (k, mkT txt (.sl K5) x.2.1 (k + 1), ((k + 1 + cnT (.sl K5) x.2.1).tmod 3 == 0), ())))
  unfold c43_2; dsimp only; rw [wrap_succ hb]
  have a0 := at_set hy2 (R43_0 x k)
  have a1 := at_set hy2 (R43_1 x k)
  have a2 := at_set hy2 (R43_2 x k)
  rw [w0]
  refine (bif_pos (Int.ofNat_lt.2 hy2)).trans ?_
  refine (bif_pos (Int.natCast_nonneg _)).trans ?_
  refine (at_known ha).trans ?_
  refine (at_known ha).trans ?_
  refine (setV_to (List.set ys i (R43_0 x k)) set_one).trans ?_
  refine (bif_pos (Int.natCast_nonneg _)).trans ?_
  refine (at_known a0).trans ?_
  refine (at_known a0).trans ?_
  refine (at_known a0).trans ?_
  refine (call_own f1 _).trans ?_
  rw [w2]
  refine (at_known a0).trans ?_
  refine (setV_to (List.set ys i (R43_1 x k)) set_set').trans ?_
  refine (bif_neg (by decide)).trans ?_
  refine (bif_pos (Int.natCast_nonneg _)).trans ?_
  refine (at_known a1).trans ?_
  refine (at_known a1).trans ?_
  refine (setV_to (List.set ys i (R43_2 x k)) set_set').trans ?_
  have hfin : k + (1 + (cnT (.sl K5) x.2.1 + (1 + 0))) = k + 1 + cnT (.sl K5) x.2.1 + 1 := by omega
  rw [hfin]
  first | done | rfl
 ·show c43_2 (arun p n) fuel rec (k + cnT (.sl K108) a0_0, (((List.length a0_0 : Nat) : Int), mkT txt (.sl K108) a0_0 k)) = _
  have hlm : List.length (mkT txt (.sl K108) a0_0 k) = List.length a0_0 := foldMk_length _ _
  unfold c43_2; simp only [hlm, dec_end, cond_false]
theorem hd46 (a0_0 : List (Row K108)) (k : Int) (h0 : 0 ≤ k) (h1 : k + cnT (.sl K108) a0_0 ≤ 4611686018427387904) (hL : LmT (.sl K108) a0_0) : Ran p 2 46 [.val false ⟨K23, (mkT txt (.sl K108) a0_0 k, ())⟩, .val false ⟨K3, (k, ())⟩] ⟨[⟨K3, (k + cnT (.sl K108) a0_0, ())⟩], []⟩ := go46 fun n hn => by
 refine Ev.eq (fun fuel => by unfold T46; rfl) ?_
 refine It.ev (c := fun fuel (_ : Unit) => c46_2 (arun p n) fuel (mkT txt (.sl K108) a0_0 k)) (i := ()) (r := fun _ => some ⟨[⟨K3, (k + cnT (.sl K108) a0_0, ())⟩], []⟩) ?_ rfl
 have hlen : List.length a0_0 ≤ 4611686018427387904 := hL.1
 refine held_loop (mkR txt K108) (cnR K108) (cnR_nn K108) a0_0 k 4611686018427387904 h0 h1 (fun i k => (k, (i : Int))) (fun i hi q hi2 ha hk hB fuel a rec => ?_) (fun fuel a rec => ?_)
 ·have hb : i < 9223372036854775807 := by omega
  have hx := hL.2 i a0_0[i] (at_lt hi)
  generalize a0_0[i] = x at *
  have hc : cnR K108 x = (1 + (cnT (.sl K5) x.2.1 + (1 + 0))) := rfl
  have hr : mkR txt K108 x q = ((q, mkT txt (.sl K5) x.2.1 (q + 1), ((q + 1 + cnT (.sl K5) x.2.1).tmod 3 == 0), ()) : Row K108) := rfl
  rw [hc] at hB ⊢
  rw [hr] at ha
  have n1 := cnT_nn (.sl K5) x.2.1
  have f1 := hd95 x.2.1 (q + 1) (by omega) (by omega) (show LmT (.sl K5) x.2.1 from hx.2.1) n (by omega)
  have d1 : decide (q + 1 + cnT (.sl K5) x.2.1 < 0) = false := decide_eq_false (by omega)
  have w0 : IntKind.i64.wrap (q + 1) = q + 1 := wrap64 (by omega) (by omega)
  have w2 : IntKind.i64.wrap (q + 1 + cnT (.sl K5) x.2.1 + 1) = q + 1 + cnT (.sl K5) x.2.1 + 1 := wrap64 (by omega) (by omega)
  show c46_2 (arun p n) fuel (mkT txt (.sl K108) a0_0 k) rec (q, (i : Int)) = rec (q + (1 + (cnT (.sl K5) x.2.1 + (1 + 0))), ((i + 1 : Nat) : Int))
  replace hi2 : i < List.length (mkT txt (.sl K108) a0_0 k) := hi2
  replace ha : at? (mkT txt (.sl K108) a0_0 k) i = some ((q, mkT txt (.sl K5) x.2.1 (q + 1), ((q + 1 + cnT (.sl K5) x.2.1).tmod 3 == 0), ()) : Row K108) := ha
  generalize mkT txt (.sl K108) a0_0 k = L at *
  unfold c46_2; dsimp only; rw [wrap_succ hb]
  rw [w0]
  refine (bif_pos (Int.ofNat_lt.2 hi2)).trans ?_
  refine (bif_pos (Int.natCast_nonneg _)).trans ?_
  refine (at_known ha).trans ?_
  refine (bif_ff (bne_self_eq_false _)).trans ?_
  refine (bif_pos (Int.natCast_nonneg _)).trans ?_
  refine (at_known ha).trans ?_
  refine (call_step' f1 _).trans ?_
  rw [w2]
  refine (bif_ff d1).trans ?_
  refine (bif_pos (Int.natCast_nonneg _)).trans ?_
  refine (at_known ha).trans ?_
  refine (bif_neg (by decide)).trans ?_
  refine (bif_ff (show (!(beqB ((q + 1 + cnT (.sl K5) x.2.1).tmod 3 == 0) ((q + 1 + cnT (.sl K5) x.2.1).tmod 3 == 0))) = false by rw [beqB_self]; rfl)).trans ?_
  have hfin : q + (1 + (cnT (.sl K5) x.2.1 + (1 + 0))) = q + 1 + cnT (.sl K5) x.2.1 + 1 := by omega
  rw [hfin]
  first | done | rfl
 ·show c46_2 (arun p n) fuel (mkT txt (.sl K108) a0_0 k) rec (k + cnT (.sl K108) a0_0, ((List.length (mkT txt (.sl K108) a0_0 k) : Nat) : Int)) = _
  unfold c46_2; simp only [dec_end, cond_false]
noncomputable def R64_0 (x : Row K139) (k : Int) : Row K139 := (k, x.2)
noncomputable def R64_1 (x : Row K139) (k : Int) : Row K139 := (k, k + 1, x.2.2)
noncomputable def R64_2 (x : Row K139) (k : Int) : Row K139 := (k, k + 1, k + 1 + 1, x.2.2.2)
noncomputable def R64_3 (x : Row K139) (k : Int) : Row K139 := (k, k + 1, k + 1 + 1, k + 1 + 1 + 1, x.2.2.2.2)
noncomputable def R64_4 (x : Row K139) (k : Int) : Row K139 := (k, k + 1, k + 1 + 1, k + 1 + 1 + 1, k + 1 + 1 + 1 + 1, x.2.2.2.2.2)
noncomputable def R64_5 (x : Row K139) (k : Int) : Row K139 := (k, k + 1, k + 1 + 1, k + 1 + 1 + 1, k + 1 + 1 + 1 + 1, txt (k + 1 + 1 + 1 + 1 + 1), x.2.2.2.2.2.2)
theorem mk64 (a0_0 : List (Row K139)) (k : Int) (h0 : 0 ≤ k) (h1 : k + cnT (.sl K139) a0_0 ≤ 4611686018427387904) (hL : LmT (.sl K139) a0_0) : Ran p 2 64 [.own false ⟨K46, (a0_0, ())⟩, .val false ⟨K3, (k, ())⟩] ⟨[⟨K3, (k + cnT (.sl K139) a0_0, ())⟩], [⟨K46, (mkT txt (.sl K139) a0_0 k, ())⟩]⟩ := go64 fun n hn => by
 refine Ev.eq (fun fuel => by unfold T64; rfl) ?_
 refine It.ev (c := fun fuel (_ : Unit) => c64_2 (arun p n) fuel) (i := ()) (r := fun _ => some ⟨[⟨K3, (k + cnT (.sl K139) a0_0, ())⟩], [⟨K46, (mkT txt (.sl K139) a0_0 k, ())⟩]⟩) ?_ rfl
 have hlen : List.length a0_0 ≤ 4611686018427387904 := hL.1
 refine mark_loop (mkR txt K139) (cnR K139) (cnR_nn K139) a0_0 k 4611686018427387904 h0 h1 (fun i k ys => (k, ((i : Int), ys))) (fun i hi ys k hy ha hk hB fuel a rec => ?_) (fun fuel a rec => ?_)
 ·have hb : i < 9223372036854775807 := by omega
  have hx := hL.2 i a0_0[i] (at_lt hi)
  generalize a0_0[i] = x at *
  have hc : cnR K139 x = (1 + (1 + (1 + (1 + (1 + (1 + 0)))))) := rfl
  have hr : mkR txt K139 x k = ((k, k + 1, k + 1 + 1, k + 1 + 1 + 1, k + 1 + 1 + 1 + 1, txt (k + 1 + 1 + 1 + 1 + 1), ()) : Row K139) := rfl
  rw [hc] at hB ⊢
  rw [hr]
  have f5 := text_f (k + 1 + 1 + 1 + 1 + 1) (by omega) (by omega) n (by omega)
  have w0 : IntKind.i64.wrap (k + 1) = k + 1 := wrap64 (by omega) (by omega)
  have w1 : IntKind.i64.wrap (k + 1 + 1) = k + 1 + 1 := wrap64 (by omega) (by omega)
  have w2 : IntKind.i64.wrap (k + 1 + 1 + 1) = k + 1 + 1 + 1 := wrap64 (by omega) (by omega)
  have w3 : IntKind.i64.wrap (k + 1 + 1 + 1 + 1) = k + 1 + 1 + 1 + 1 := wrap64 (by omega) (by omega)
  have w4 : IntKind.i64.wrap (k + 1 + 1 + 1 + 1 + 1) = k + 1 + 1 + 1 + 1 + 1 := wrap64 (by omega) (by omega)
  have w5 : IntKind.i64.wrap (k + 1 + 1 + 1 + 1 + 1 + 1) = k + 1 + 1 + 1 + 1 + 1 + 1 := wrap64 (by omega) (by omega)
  have hy2 : i < ys.length := by rw [hy]; exact hi
  show c64_2 (arun p n) fuel rec (k, ((i : Int), ys)) = rec (k + (1 + (1 + (1 + (1 + (1 + (1 + 0)))))), (((i + 1 : Nat) : Int), ys.set i (k, k + 1, k + 1 + 1, k + 1 + 1 + 1, k + 1 + 1 + 1 + 1, txt (k + 1 + 1 + 1 + 1 + 1), ())))
  unfold c64_2; dsimp only; rw [wrap_succ hb]
  have a0 := at_set hy2 (R64_0 x k)
  have a1 := at_set hy2 (R64_1 x k)
  have a2 := at_set hy2 (R64_2 x k)
  have a3 := at_set hy2 (R64_3 x k)
  have a4 := at_set hy2 (R64_4 x k)
  have a5 := at_set hy2 (R64_5 x k)
  rw [w0]
  rw [w1]
  rw [w2]
  rw [w3]
  rw [w4]
  rw [w5]
  refine (bif_pos (Int.ofNat_lt.2 hy2)).trans ?_
  refine (bif_pos (Int.natCast_nonneg _)).trans ?_
  refine (at_known ha).trans ?_
  refine (at_known ha).trans ?_
  refine (setV_to (List.set ys i (R64_0 x k)) set_one).trans ?_
  refine (bif_pos (Int.natCast_nonneg _)).trans ?_
  refine (at_known a0).trans ?_
  refine (at_known a0).trans ?_
  refine (setV_to (List.set ys i (R64_1 x k)) set_set').trans ?_
  refine (bif_pos (Int.natCast_nonneg _)).trans ?_
  refine (at_known a1).trans ?_
  refine (at_known a1).trans ?_
  refine (setV_to (List.set ys i (R64_2 x k)) set_set').trans ?_
  refine (bif_pos (Int.natCast_nonneg _)).trans ?_
  refine (at_known a2).trans ?_
  refine (at_known a2).trans ?_
  refine (setV_to (List.set ys i (R64_3 x k)) set_set').trans ?_
  refine (bif_pos (Int.natCast_nonneg _)).trans ?_
  refine (at_known a3).trans ?_
  refine (at_known a3).trans ?_
  refine (setV_to (List.set ys i (R64_4 x k)) set_set').trans ?_
  refine (call_step' f5 _).trans ?_
  refine (bif_pos (Int.natCast_nonneg _)).trans ?_
  refine (at_known a4).trans ?_
  refine (at_known a4).trans ?_
  refine (setV_to (List.set ys i (R64_5 x k)) set_set').trans ?_
  have hfin : k + (1 + (1 + (1 + (1 + (1 + (1 + 0)))))) = k + 1 + 1 + 1 + 1 + 1 + 1 := by omega
  rw [hfin]
  first | done | rfl
 ·show c64_2 (arun p n) fuel rec (k + cnT (.sl K139) a0_0, (((List.length a0_0 : Nat) : Int), mkT txt (.sl K139) a0_0 k)) = _
  have hlm : List.length (mkT txt (.sl K139) a0_0 k) = List.length a0_0 := foldMk_length _ _
  unfold c64_2; simp only [hlm, dec_end, cond_false]
theorem hd68 (a0_0 : List (Row K139)) (k : Int) (h0 : 0 ≤ k) (h1 : k + cnT (.sl K139) a0_0 ≤ 4611686018427387904) (hL : LmT (.sl K139) a0_0) : Ran p 2 68 [.val false ⟨K46, (mkT txt (.sl K139) a0_0 k, ())⟩, .val false ⟨K3, (k, ())⟩] ⟨[⟨K3, (k + cnT (.sl K139) a0_0, ())⟩], []⟩ := go68 fun n hn => by
 refine Ev.eq (fun fuel => by unfold T68; rfl) ?_
 refine It.ev (c := fun fuel (_ : Unit) => c68_2 (arun p n) fuel (mkT txt (.sl K139) a0_0 k)) (i := ()) (r := fun _ => some ⟨[⟨K3, (k + cnT (.sl K139) a0_0, ())⟩], []⟩) ?_ rfl
 have hlen : List.length a0_0 ≤ 4611686018427387904 := hL.1
 refine held_loop (mkR txt K139) (cnR K139) (cnR_nn K139) a0_0 k 4611686018427387904 h0 h1 (fun i k => (k, (i : Int))) (fun i hi q hi2 ha hk hB fuel a rec => ?_) (fun fuel a rec => ?_)
 ·have hb : i < 9223372036854775807 := by omega
  have hx := hL.2 i a0_0[i] (at_lt hi)
  generalize a0_0[i] = x at *
  have hc : cnR K139 x = (1 + (1 + (1 + (1 + (1 + (1 + 0)))))) := rfl
  have hr : mkR txt K139 x q = ((q, q + 1, q + 1 + 1, q + 1 + 1 + 1, q + 1 + 1 + 1 + 1, txt (q + 1 + 1 + 1 + 1 + 1), ()) : Row K139) := rfl
  rw [hc] at hB ⊢
  rw [hr] at ha
  have f5 := text_f (q + 1 + 1 + 1 + 1 + 1) (by omega) (by omega) n (by omega)
  have w0 : IntKind.i64.wrap (q + 1) = q + 1 := wrap64 (by omega) (by omega)
  have w1 : IntKind.i64.wrap (q + 1 + 1) = q + 1 + 1 := wrap64 (by omega) (by omega)
  have w2 : IntKind.i64.wrap (q + 1 + 1 + 1) = q + 1 + 1 + 1 := wrap64 (by omega) (by omega)
  have w3 : IntKind.i64.wrap (q + 1 + 1 + 1 + 1) = q + 1 + 1 + 1 + 1 := wrap64 (by omega) (by omega)
  have w4 : IntKind.i64.wrap (q + 1 + 1 + 1 + 1 + 1) = q + 1 + 1 + 1 + 1 + 1 := wrap64 (by omega) (by omega)
  have w5 : IntKind.i64.wrap (q + 1 + 1 + 1 + 1 + 1 + 1) = q + 1 + 1 + 1 + 1 + 1 + 1 := wrap64 (by omega) (by omega)
  show c68_2 (arun p n) fuel (mkT txt (.sl K139) a0_0 k) rec (q, (i : Int)) = rec (q + (1 + (1 + (1 + (1 + (1 + (1 + 0)))))), ((i + 1 : Nat) : Int))
  replace hi2 : i < List.length (mkT txt (.sl K139) a0_0 k) := hi2
  replace ha : at? (mkT txt (.sl K139) a0_0 k) i = some ((q, q + 1, q + 1 + 1, q + 1 + 1 + 1, q + 1 + 1 + 1 + 1, txt (q + 1 + 1 + 1 + 1 + 1), ()) : Row K139) := ha
  generalize mkT txt (.sl K139) a0_0 k = L at *
  unfold c68_2; dsimp only; rw [wrap_succ hb]
  rw [w0]
  rw [w1]
  rw [w2]
  rw [w3]
  rw [w4]
  rw [w5]
  refine (bif_pos (Int.ofNat_lt.2 hi2)).trans ?_
  refine (bif_pos (Int.natCast_nonneg _)).trans ?_
  refine (at_known ha).trans ?_
  refine (bif_ff (bne_self_eq_false _)).trans ?_
  refine (bif_pos (Int.natCast_nonneg _)).trans ?_
  refine (at_known ha).trans ?_
  refine (bif_ff (bne_self_eq_false _)).trans ?_
  refine (bif_pos (Int.natCast_nonneg _)).trans ?_
  refine (at_known ha).trans ?_
  refine (bif_ff (bne_self_eq_false _)).trans ?_
  refine (bif_pos (Int.natCast_nonneg _)).trans ?_
  refine (at_known ha).trans ?_
  refine (bif_ff (bne_self_eq_false _)).trans ?_
  refine (bif_pos (Int.natCast_nonneg _)).trans ?_
  refine (at_known ha).trans ?_
  refine (bif_ff (bne_self_eq_false _)).trans ?_
  refine (bif_pos (Int.natCast_nonneg _)).trans ?_
  refine (at_known ha).trans ?_
  refine (call_step' f5 _).trans ?_
  refine (bif_ff (show (!(ByteArray.toList (txt (q + 1 + 1 + 1 + 1 + 1)) == ByteArray.toList (txt (q + 1 + 1 + 1 + 1 + 1)))) = false by rw [beq_self_eq_true]; rfl)).trans ?_
  have hfin : q + (1 + (1 + (1 + (1 + (1 + (1 + 0)))))) = q + 1 + 1 + 1 + 1 + 1 + 1 := by omega
  rw [hfin]
  first | done | rfl
 ·show c68_2 (arun p n) fuel (mkT txt (.sl K139) a0_0 k) rec (k + cnT (.sl K139) a0_0, ((List.length (mkT txt (.sl K139) a0_0 k) : Nat) : Int)) = _
  unfold c68_2; simp only [dec_end, cond_false]
noncomputable def R87_0 (x : Row K43) (k : Int) : Row K43 := (mkT txt (.sl K3) x.1 (k), x.2)
theorem mk87 (a0_0 : List (Row K43)) (k : Int) (h0 : 0 ≤ k) (h1 : k + cnT (.sl K43) a0_0 ≤ 4611686018427387904) (hL : LmT (.sl K43) a0_0) : Ran p 2 87 [.own false ⟨K69, (a0_0, ())⟩, .val false ⟨K3, (k, ())⟩] ⟨[⟨K3, (k + cnT (.sl K43) a0_0, ())⟩], [⟨K69, (mkT txt (.sl K43) a0_0 k, ())⟩]⟩ := go87 fun n hn => by
 refine Ev.eq (fun fuel => by unfold T87; rfl) ?_
 refine It.ev (c := fun fuel (_ : Unit) => c87_2 (arun p n) fuel) (i := ()) (r := fun _ => some ⟨[⟨K3, (k + cnT (.sl K43) a0_0, ())⟩], [⟨K69, (mkT txt (.sl K43) a0_0 k, ())⟩]⟩) ?_ rfl
 have hlen : List.length a0_0 ≤ 4611686018427387904 := hL.1
 refine mark_loop (mkR txt K43) (cnR K43) (cnR_nn K43) a0_0 k 4611686018427387904 h0 h1 (fun i k ys => (k, ((i : Int), ys))) (fun i hi ys k hy ha hk hB fuel a rec => ?_) (fun fuel a rec => ?_)
 ·have hb : i < 9223372036854775807 := by omega
  have hx := hL.2 i a0_0[i] (at_lt hi)
  generalize a0_0[i] = x at *
  have hc : cnR K43 x = (cnT (.sl K3) x.1 + 0) := rfl
  have hr : mkR txt K43 x k = ((mkT txt (.sl K3) x.1 (k), ()) : Row K43) := rfl
  rw [hc] at hB ⊢
  rw [hr]
  have n0 := cnT_nn (.sl K3) x.1
  have f0 := mk23 x.1 (k) (by omega) (by omega) (show LmT (.sl K3) x.1 from hx.1) n (by omega)
  have hy2 : i < ys.length := by rw [hy]; exact hi
  show c87_2 (arun p n) fuel rec (k, ((i : Int), ys)) = rec (k + (cnT (.sl K3) x.1 + 0), (((i + 1 : Nat) : Int), ys.set i (mkT txt (.sl K3) x.1 (k), ())))
  unfold c87_2; dsimp only; rw [wrap_succ hb]
  have a0 := at_set hy2 (R87_0 x k)
  refine (bif_pos (Int.ofNat_lt.2 hy2)).trans ?_
  refine (bif_pos (Int.natCast_nonneg _)).trans ?_
  refine (at_known ha).trans ?_
  refine (at_known ha).trans ?_
  refine (at_known ha).trans ?_
  refine (call_own f0 _).trans ?_
  refine (at_known ha).trans ?_
  refine (setV_to (List.set ys i (R87_0 x k)) set_one).trans ?_
  have hfin : k + (cnT (.sl K3) x.1 + 0) = k + cnT (.sl K3) x.1 := by omega
  rw [hfin]
  first | done | rfl
 ·show c87_2 (arun p n) fuel rec (k + cnT (.sl K43) a0_0, (((List.length a0_0 : Nat) : Int), mkT txt (.sl K43) a0_0 k)) = _
  have hlm : List.length (mkT txt (.sl K43) a0_0 k) = List.length a0_0 := foldMk_length _ _
  unfold c87_2; simp only [hlm, dec_end, cond_false]
theorem hd92 (a0_0 : List (Row K43)) (k : Int) (h0 : 0 ≤ k) (h1 : k + cnT (.sl K43) a0_0 ≤ 4611686018427387904) (hL : LmT (.sl K43) a0_0) : Ran p 2 92 [.val false ⟨K69, (mkT txt (.sl K43) a0_0 k, ())⟩, .val false ⟨K3, (k, ())⟩] ⟨[⟨K3, (k + cnT (.sl K43) a0_0, ())⟩], []⟩ := go92 fun n hn => by
 refine Ev.eq (fun fuel => by unfold T92; rfl) ?_
 refine It.ev (c := fun fuel (_ : Unit) => c92_2 (arun p n) fuel (mkT txt (.sl K43) a0_0 k)) (i := ()) (r := fun _ => some ⟨[⟨K3, (k + cnT (.sl K43) a0_0, ())⟩], []⟩) ?_ rfl
 have hlen : List.length a0_0 ≤ 4611686018427387904 := hL.1
 refine held_loop (mkR txt K43) (cnR K43) (cnR_nn K43) a0_0 k 4611686018427387904 h0 h1 (fun i k => (k, (i : Int))) (fun i hi q hi2 ha hk hB fuel a rec => ?_) (fun fuel a rec => ?_)
 ·have hb : i < 9223372036854775807 := by omega
  have hx := hL.2 i a0_0[i] (at_lt hi)
  generalize a0_0[i] = x at *
  have hc : cnR K43 x = (cnT (.sl K3) x.1 + 0) := rfl
  have hr : mkR txt K43 x q = ((mkT txt (.sl K3) x.1 (q), ()) : Row K43) := rfl
  rw [hc] at hB ⊢
  rw [hr] at ha
  have n0 := cnT_nn (.sl K3) x.1
  have f0 := hd24 x.1 (q) (by omega) (by omega) (show LmT (.sl K3) x.1 from hx.1) n (by omega)
  have d0 : decide (q + cnT (.sl K3) x.1 < 0) = false := decide_eq_false (by omega)
  show c92_2 (arun p n) fuel (mkT txt (.sl K43) a0_0 k) rec (q, (i : Int)) = rec (q + (cnT (.sl K3) x.1 + 0), ((i + 1 : Nat) : Int))
  replace hi2 : i < List.length (mkT txt (.sl K43) a0_0 k) := hi2
  replace ha : at? (mkT txt (.sl K43) a0_0 k) i = some ((mkT txt (.sl K3) x.1 (q), ()) : Row K43) := ha
  generalize mkT txt (.sl K43) a0_0 k = L at *
  unfold c92_2; dsimp only; rw [wrap_succ hb]
  refine (bif_pos (Int.ofNat_lt.2 hi2)).trans ?_
  refine (bif_pos (Int.natCast_nonneg _)).trans ?_
  refine (at_known ha).trans ?_
  refine (call_step' f0 _).trans ?_
  refine (bif_ff d0).trans ?_
  have hfin : q + (cnT (.sl K3) x.1 + 0) = q + cnT (.sl K3) x.1 := by omega
  rw [hfin]
  first | done | rfl
 ·show c92_2 (arun p n) fuel (mkT txt (.sl K43) a0_0 k) rec (k + cnT (.sl K43) a0_0, ((List.length (mkT txt (.sl K43) a0_0 k) : Nat) : Int)) = _
  unfold c92_2; simp only [dec_end, cond_false]
noncomputable def R44_0 (x : Row K90) (k : Int) : Row K90 := (k, x.2)
noncomputable def R44_1 (x : Row K90) (k : Int) : Row K90 := (k, mkT txt (.sl K139) x.2.1 (k + 1), x.2.2)
noncomputable def R44_2 (x : Row K90) (k : Int) : Row K90 := (k, mkT txt (.sl K139) x.2.1 (k + 1), mkT txt (.sl K143) x.2.2.1 (k + 1 + cnT (.sl K139) x.2.1), x.2.2.2)
theorem mk44 (a0_0 : List (Row K90)) (k : Int) (h0 : 0 ≤ k) (h1 : k + cnT (.sl K90) a0_0 ≤ 4611686018427387904) (hL : LmT (.sl K90) a0_0) : Ran p 3 44 [.own false ⟨K24, (a0_0, ())⟩, .val false ⟨K3, (k, ())⟩] ⟨[⟨K3, (k + cnT (.sl K90) a0_0, ())⟩], [⟨K24, (mkT txt (.sl K90) a0_0 k, ())⟩]⟩ := go44 fun n hn => by
 refine Ev.eq (fun fuel => by unfold T44; rfl) ?_
 refine It.ev (c := fun fuel (_ : Unit) => c44_2 (arun p n) fuel) (i := ()) (r := fun _ => some ⟨[⟨K3, (k + cnT (.sl K90) a0_0, ())⟩], [⟨K24, (mkT txt (.sl K90) a0_0 k, ())⟩]⟩) ?_ rfl
 have hlen : List.length a0_0 ≤ 4611686018427387904 := hL.1
 refine mark_loop (mkR txt K90) (cnR K90) (cnR_nn K90) a0_0 k 4611686018427387904 h0 h1 (fun i k ys => (k, ((i : Int), ys))) (fun i hi ys k hy ha hk hB fuel a rec => ?_) (fun fuel a rec => ?_)
 ·have hb : i < 9223372036854775807 := by omega
  have hx := hL.2 i a0_0[i] (at_lt hi)
  generalize a0_0[i] = x at *
  have hc : cnR K90 x = (1 + (cnT (.sl K139) x.2.1 + (cnT (.sl K143) x.2.2.1 + 0))) := rfl
  have hr : mkR txt K90 x k = ((k, mkT txt (.sl K139) x.2.1 (k + 1), mkT txt (.sl K143) x.2.2.1 (k + 1 + cnT (.sl K139) x.2.1), ()) : Row K90) := rfl
  rw [hc] at hB ⊢
  rw [hr]
  have n1 := cnT_nn (.sl K139) x.2.1
  have n2 := cnT_nn (.sl K143) x.2.2.1
  have f1 := mk64 x.2.1 (k + 1) (by omega) (by omega) (show LmT (.sl K139) x.2.1 from hx.2.1) n (by omega)
  have f2 := mk65 x.2.2.1 (k + 1 + cnT (.sl K139) x.2.1) (by omega) (by omega) (show LmT (.sl K143) x.2.2.1 from hx.2.2.1) n (by omega)
  have w0 : IntKind.i64.wrap (k + 1) = k + 1 := wrap64 (by omega) (by omega)
  have hy2 : i < ys.length := by rw [hy]; exact hi
  show c44_2 (arun p n) fuel rec (k, ((i : Int), ys)) = rec (k + (1 + (cnT (.sl K139) x.2.1 + (cnT (.sl K143) x.2.2.1 + 0))), (((i + 1 : Nat) : Int), ys.set i (k, mkT txt (.sl K139) x.2.1 (k + 1), mkT txt (.sl K143) x.2.2.1 (k + 1 + cnT (.sl K139) x.2.1), ())))
  unfold c44_2; dsimp only; rw [wrap_succ hb]
  have a0 := at_set hy2 (R44_0 x k)
  have a1 := at_set hy2 (R44_1 x k)
  have a2 := at_set hy2 (R44_2 x k)
  rw [w0]
  refine (bif_pos (Int.ofNat_lt.2 hy2)).trans ?_
  refine (bif_pos (Int.natCast_nonneg _)).trans ?_
  refine (at_known ha).trans ?_
  refine (at_known ha).trans ?_
  refine (setV_to (List.set ys i (R44_0 x k)) set_one).trans ?_
  refine (bif_pos (Int.natCast_nonneg _)).trans ?_
  refine (at_known a0).trans ?_
  refine (at_known a0).trans ?_
  refine (at_known a0).trans ?_
  refine (call_own f1 _).trans ?_
  refine (at_known a0).trans ?_
  refine (setV_to (List.set ys i (R44_1 x k)) set_set').trans ?_
  refine (bif_pos (Int.natCast_nonneg _)).trans ?_
  refine (at_known a1).trans ?_
  refine (at_known a1).trans ?_
  refine (at_known a1).trans ?_
  refine (call_own f2 _).trans ?_
  refine (at_known a1).trans ?_
  refine (setV_to (List.set ys i (R44_2 x k)) set_set').trans ?_
  have hfin : k + (1 + (cnT (.sl K139) x.2.1 + (cnT (.sl K143) x.2.2.1 + 0))) = k + 1 + cnT (.sl K139) x.2.1 + cnT (.sl K143) x.2.2.1 := by omega
  rw [hfin]
  first | done | rfl
 ·show c44_2 (arun p n) fuel rec (k + cnT (.sl K90) a0_0, (((List.length a0_0 : Nat) : Int), mkT txt (.sl K90) a0_0 k)) = _
  have hlm : List.length (mkT txt (.sl K90) a0_0 k) = List.length a0_0 := foldMk_length _ _
  unfold c44_2; simp only [hlm, dec_end, cond_false]
theorem hd47 (a0_0 : List (Row K90)) (k : Int) (h0 : 0 ≤ k) (h1 : k + cnT (.sl K90) a0_0 ≤ 4611686018427387904) (hL : LmT (.sl K90) a0_0) : Ran p 3 47 [.val false ⟨K24, (mkT txt (.sl K90) a0_0 k, ())⟩, .val false ⟨K3, (k, ())⟩] ⟨[⟨K3, (k + cnT (.sl K90) a0_0, ())⟩], []⟩ := go47 fun n hn => by
 refine Ev.eq (fun fuel => by unfold T47; rfl) ?_
 refine It.ev (c := fun fuel (_ : Unit) => c47_2 (arun p n) fuel (mkT txt (.sl K90) a0_0 k)) (i := ()) (r := fun _ => some ⟨[⟨K3, (k + cnT (.sl K90) a0_0, ())⟩], []⟩) ?_ rfl
 have hlen : List.length a0_0 ≤ 4611686018427387904 := hL.1
 refine held_loop (mkR txt K90) (cnR K90) (cnR_nn K90) a0_0 k 4611686018427387904 h0 h1 (fun i k => (k, (i : Int))) (fun i hi q hi2 ha hk hB fuel a rec => ?_) (fun fuel a rec => ?_)
 ·have hb : i < 9223372036854775807 := by omega
  have hx := hL.2 i a0_0[i] (at_lt hi)
  generalize a0_0[i] = x at *
  have hc : cnR K90 x = (1 + (cnT (.sl K139) x.2.1 + (cnT (.sl K143) x.2.2.1 + 0))) := rfl
  have hr : mkR txt K90 x q = ((q, mkT txt (.sl K139) x.2.1 (q + 1), mkT txt (.sl K143) x.2.2.1 (q + 1 + cnT (.sl K139) x.2.1), ()) : Row K90) := rfl
  rw [hc] at hB ⊢
  rw [hr] at ha
  have n1 := cnT_nn (.sl K139) x.2.1
  have n2 := cnT_nn (.sl K143) x.2.2.1
  have f1 := hd68 x.2.1 (q + 1) (by omega) (by omega) (show LmT (.sl K139) x.2.1 from hx.2.1) n (by omega)
  have d1 : decide (q + 1 + cnT (.sl K139) x.2.1 < 0) = false := decide_eq_false (by omega)
  have f2 := hd69 x.2.2.1 (q + 1 + cnT (.sl K139) x.2.1) (by omega) (by omega) (show LmT (.sl K143) x.2.2.1 from hx.2.2.1) n (by omega)
  have d2 : decide (q + 1 + cnT (.sl K139) x.2.1 + cnT (.sl K143) x.2.2.1 < 0) = false := decide_eq_false (by omega)
  have w0 : IntKind.i64.wrap (q + 1) = q + 1 := wrap64 (by omega) (by omega)
  show c47_2 (arun p n) fuel (mkT txt (.sl K90) a0_0 k) rec (q, (i : Int)) = rec (q + (1 + (cnT (.sl K139) x.2.1 + (cnT (.sl K143) x.2.2.1 + 0))), ((i + 1 : Nat) : Int))
  replace hi2 : i < List.length (mkT txt (.sl K90) a0_0 k) := hi2
  replace ha : at? (mkT txt (.sl K90) a0_0 k) i = some ((q, mkT txt (.sl K139) x.2.1 (q + 1), mkT txt (.sl K143) x.2.2.1 (q + 1 + cnT (.sl K139) x.2.1), ()) : Row K90) := ha
  generalize mkT txt (.sl K90) a0_0 k = L at *
  unfold c47_2; dsimp only; rw [wrap_succ hb]
  rw [w0]
  refine (bif_pos (Int.ofNat_lt.2 hi2)).trans ?_
  refine (bif_pos (Int.natCast_nonneg _)).trans ?_
  refine (at_known ha).trans ?_
  refine (bif_ff (bne_self_eq_false _)).trans ?_
  refine (bif_pos (Int.natCast_nonneg _)).trans ?_
  refine (at_known ha).trans ?_
  refine (call_step' f1 _).trans ?_
  refine (bif_ff d1).trans ?_
  refine (bif_pos (Int.natCast_nonneg _)).trans ?_
  refine (at_known ha).trans ?_
  refine (call_step' f2 _).trans ?_
  refine (bif_ff d2).trans ?_
  have hfin : q + (1 + (cnT (.sl K139) x.2.1 + (cnT (.sl K143) x.2.2.1 + 0))) = q + 1 + cnT (.sl K139) x.2.1 + cnT (.sl K143) x.2.2.1 := by omega
  rw [hfin]
  first | done | rfl
 ·show c47_2 (arun p n) fuel (mkT txt (.sl K90) a0_0 k) rec (k + cnT (.sl K90) a0_0, ((List.length (mkT txt (.sl K90) a0_0 k) : Nat) : Int)) = _
  unfold c47_2; simp only [dec_end, cond_false]
noncomputable def R86_0 (x : Row K49) (k : Int) : Row K49 := (mkT txt (.sl K139) x.1 (k), x.2)
noncomputable def R86_1 (x : Row K49) (k : Int) : Row K49 := (mkT txt (.sl K139) x.1 (k), mkT txt (.sl K143) x.2.1 (k + cnT (.sl K139) x.1), x.2.2)
theorem mk86 (a0_0 : List (Row K49)) (k : Int) (h0 : 0 ≤ k) (h1 : k + cnT (.sl K49) a0_0 ≤ 4611686018427387904) (hL : LmT (.sl K49) a0_0) : Ran p 3 86 [.own false ⟨K66, (a0_0, ())⟩, .val false ⟨K3, (k, ())⟩] ⟨[⟨K3, (k + cnT (.sl K49) a0_0, ())⟩], [⟨K66, (mkT txt (.sl K49) a0_0 k, ())⟩]⟩ := go86 fun n hn => by
 refine Ev.eq (fun fuel => by unfold T86; rfl) ?_
 refine It.ev (c := fun fuel (_ : Unit) => c86_2 (arun p n) fuel) (i := ()) (r := fun _ => some ⟨[⟨K3, (k + cnT (.sl K49) a0_0, ())⟩], [⟨K66, (mkT txt (.sl K49) a0_0 k, ())⟩]⟩) ?_ rfl
 have hlen : List.length a0_0 ≤ 4611686018427387904 := hL.1
 refine mark_loop (mkR txt K49) (cnR K49) (cnR_nn K49) a0_0 k 4611686018427387904 h0 h1 (fun i k ys => (k, ((i : Int), ys))) (fun i hi ys k hy ha hk hB fuel a rec => ?_) (fun fuel a rec => ?_)
 ·have hb : i < 9223372036854775807 := by omega
  have hx := hL.2 i a0_0[i] (at_lt hi)
  generalize a0_0[i] = x at *
  have hc : cnR K49 x = (cnT (.sl K139) x.1 + (cnT (.sl K143) x.2.1 + 0)) := rfl
  have hr : mkR txt K49 x k = ((mkT txt (.sl K139) x.1 (k), mkT txt (.sl K143) x.2.1 (k + cnT (.sl K139) x.1), ()) : Row K49) := rfl
  rw [hc] at hB ⊢
  rw [hr]
  have n0 := cnT_nn (.sl K139) x.1
  have n1 := cnT_nn (.sl K143) x.2.1
  have f0 := mk64 x.1 (k) (by omega) (by omega) (show LmT (.sl K139) x.1 from hx.1) n (by omega)
  have f1 := mk65 x.2.1 (k + cnT (.sl K139) x.1) (by omega) (by omega) (show LmT (.sl K143) x.2.1 from hx.2.1) n (by omega)
  have hy2 : i < ys.length := by rw [hy]; exact hi
  show c86_2 (arun p n) fuel rec (k, ((i : Int), ys)) = rec (k + (cnT (.sl K139) x.1 + (cnT (.sl K143) x.2.1 + 0)), (((i + 1 : Nat) : Int), ys.set i (mkT txt (.sl K139) x.1 (k), mkT txt (.sl K143) x.2.1 (k + cnT (.sl K139) x.1), ())))
  unfold c86_2; dsimp only; rw [wrap_succ hb]
  have a0 := at_set hy2 (R86_0 x k)
  have a1 := at_set hy2 (R86_1 x k)
  refine (bif_pos (Int.ofNat_lt.2 hy2)).trans ?_
  refine (bif_pos (Int.natCast_nonneg _)).trans ?_
  refine (at_known ha).trans ?_
  refine (at_known ha).trans ?_
  refine (at_known ha).trans ?_
  refine (call_own f0 _).trans ?_
  refine (at_known ha).trans ?_
  refine (setV_to (List.set ys i (R86_0 x k)) set_one).trans ?_
  refine (bif_pos (Int.natCast_nonneg _)).trans ?_
  refine (at_known a0).trans ?_
  refine (at_known a0).trans ?_
  refine (at_known a0).trans ?_
  refine (call_own f1 _).trans ?_
  refine (at_known a0).trans ?_
  refine (setV_to (List.set ys i (R86_1 x k)) set_set').trans ?_
  have hfin : k + (cnT (.sl K139) x.1 + (cnT (.sl K143) x.2.1 + 0)) = k + cnT (.sl K139) x.1 + cnT (.sl K143) x.2.1 := by omega
  rw [hfin]
  first | done | rfl
 ·show c86_2 (arun p n) fuel rec (k + cnT (.sl K49) a0_0, (((List.length a0_0 : Nat) : Int), mkT txt (.sl K49) a0_0 k)) = _
  have hlm : List.length (mkT txt (.sl K49) a0_0 k) = List.length a0_0 := foldMk_length _ _
  unfold c86_2; simp only [hlm, dec_end, cond_false]
theorem hd91 (a0_0 : List (Row K49)) (k : Int) (h0 : 0 ≤ k) (h1 : k + cnT (.sl K49) a0_0 ≤ 4611686018427387904) (hL : LmT (.sl K49) a0_0) : Ran p 3 91 [.val false ⟨K66, (mkT txt (.sl K49) a0_0 k, ())⟩, .val false ⟨K3, (k, ())⟩] ⟨[⟨K3, (k + cnT (.sl K49) a0_0, ())⟩], []⟩ := go91 fun n hn => by
 refine Ev.eq (fun fuel => by unfold T91; rfl) ?_
 refine It.ev (c := fun fuel (_ : Unit) => c91_2 (arun p n) fuel (mkT txt (.sl K49) a0_0 k)) (i := ()) (r := fun _ => some ⟨[⟨K3, (k + cnT (.sl K49) a0_0, ())⟩], []⟩) ?_ rfl
 have hlen : List.length a0_0 ≤ 4611686018427387904 := hL.1
 refine held_loop (mkR txt K49) (cnR K49) (cnR_nn K49) a0_0 k 4611686018427387904 h0 h1 (fun i k => (k, (i : Int))) (fun i hi q hi2 ha hk hB fuel a rec => ?_) (fun fuel a rec => ?_)
 ·have hb : i < 9223372036854775807 := by omega
  have hx := hL.2 i a0_0[i] (at_lt hi)
  generalize a0_0[i] = x at *
  have hc : cnR K49 x = (cnT (.sl K139) x.1 + (cnT (.sl K143) x.2.1 + 0)) := rfl
  have hr : mkR txt K49 x q = ((mkT txt (.sl K139) x.1 (q), mkT txt (.sl K143) x.2.1 (q + cnT (.sl K139) x.1), ()) : Row K49) := rfl
  rw [hc] at hB ⊢
  rw [hr] at ha
  have n0 := cnT_nn (.sl K139) x.1
  have n1 := cnT_nn (.sl K143) x.2.1
  have f0 := hd68 x.1 (q) (by omega) (by omega) (show LmT (.sl K139) x.1 from hx.1) n (by omega)
  have d0 : decide (q + cnT (.sl K139) x.1 < 0) = false := decide_eq_false (by omega)
  have f1 := hd69 x.2.1 (q + cnT (.sl K139) x.1) (by omega) (by omega) (show LmT (.sl K143) x.2.1 from hx.2.1) n (by omega)
  have d1 : decide (q + cnT (.sl K139) x.1 + cnT (.sl K143) x.2.1 < 0) = false := decide_eq_false (by omega)
  show c91_2 (arun p n) fuel (mkT txt (.sl K49) a0_0 k) rec (q, (i : Int)) = rec (q + (cnT (.sl K139) x.1 + (cnT (.sl K143) x.2.1 + 0)), ((i + 1 : Nat) : Int))
  replace hi2 : i < List.length (mkT txt (.sl K49) a0_0 k) := hi2
  replace ha : at? (mkT txt (.sl K49) a0_0 k) i = some ((mkT txt (.sl K139) x.1 (q), mkT txt (.sl K143) x.2.1 (q + cnT (.sl K139) x.1), ()) : Row K49) := ha
  generalize mkT txt (.sl K49) a0_0 k = L at *
  unfold c91_2; dsimp only; rw [wrap_succ hb]
  refine (bif_pos (Int.ofNat_lt.2 hi2)).trans ?_
  refine (bif_pos (Int.natCast_nonneg _)).trans ?_
  refine (at_known ha).trans ?_
  refine (call_step' f0 _).trans ?_
  refine (bif_ff d0).trans ?_
  refine (bif_pos (Int.natCast_nonneg _)).trans ?_
  refine (at_known ha).trans ?_
  refine (call_step' f1 _).trans ?_
  refine (bif_ff d1).trans ?_
  have hfin : q + (cnT (.sl K139) x.1 + (cnT (.sl K143) x.2.1 + 0)) = q + cnT (.sl K139) x.1 + cnT (.sl K143) x.2.1 := by omega
  rw [hfin]
  first | done | rfl
 ·show c91_2 (arun p n) fuel (mkT txt (.sl K49) a0_0 k) rec (k + cnT (.sl K49) a0_0, ((List.length (mkT txt (.sl K49) a0_0 k) : Nat) : Int)) = _
  unfold c91_2; simp only [dec_end, cond_false]
noncomputable def R42_0 (x : Row K73) (k : Int) : Row K73 := (k, x.2)
noncomputable def R42_1 (x : Row K73) (k : Int) : Row K73 := (k, k + 1, x.2.2)
noncomputable def R42_2 (x : Row K73) (k : Int) : Row K73 := (k, k + 1, mkT txt (.sl K139) x.2.2.1 (k + 1 + 1), x.2.2.2)
noncomputable def R42_3 (x : Row K73) (k : Int) : Row K73 := (k, k + 1, mkT txt (.sl K139) x.2.2.1 (k + 1 + 1), mkT txt (.sl K143) x.2.2.2.1 (k + 1 + 1 + cnT (.sl K139) x.2.2.1), x.2.2.2.2)
noncomputable def R42_4 (x : Row K73) (k : Int) : Row K73 := (k, k + 1, mkT txt (.sl K139) x.2.2.1 (k + 1 + 1), mkT txt (.sl K143) x.2.2.2.1 (k + 1 + 1 + cnT (.sl K139) x.2.2.1), mkT txt (.sl K3) x.2.2.2.2.1 (k + 1 + 1 + cnT (.sl K139) x.2.2.1 + cnT (.sl K143) x.2.2.2.1), x.2.2.2.2.2)
noncomputable def R42_5 (x : Row K73) (k : Int) : Row K73 := (k, k + 1, mkT txt (.sl K139) x.2.2.1 (k + 1 + 1), mkT txt (.sl K143) x.2.2.2.1 (k + 1 + 1 + cnT (.sl K139) x.2.2.1), mkT txt (.sl K3) x.2.2.2.2.1 (k + 1 + 1 + cnT (.sl K139) x.2.2.1 + cnT (.sl K143) x.2.2.2.1), k + 1 + 1 + cnT (.sl K139) x.2.2.1 + cnT (.sl K143) x.2.2.2.1 + cnT (.sl K3) x.2.2.2.2.1, x.2.2.2.2.2.2)
noncomputable def R42_6 (x : Row K73) (k : Int) : Row K73 := (k, k + 1, mkT txt (.sl K139) x.2.2.1 (k + 1 + 1), mkT txt (.sl K143) x.2.2.2.1 (k + 1 + 1 + cnT (.sl K139) x.2.2.1), mkT txt (.sl K3) x.2.2.2.2.1 (k + 1 + 1 + cnT (.sl K139) x.2.2.1 + cnT (.sl K143) x.2.2.2.1), k + 1 + 1 + cnT (.sl K139) x.2.2.1 + cnT (.sl K143) x.2.2.2.1 + cnT (.sl K3) x.2.2.2.2.1, k + 1 + 1 + cnT (.sl K139) x.2.2.1 + cnT (.sl K143) x.2.2.2.1 + cnT (.sl K3) x.2.2.2.2.1 + 1, x.2.2.2.2.2.2.2)
noncomputable def R42_7 (x : Row K73) (k : Int) : Row K73 := (k, k + 1, mkT txt (.sl K139) x.2.2.1 (k + 1 + 1), mkT txt (.sl K143) x.2.2.2.1 (k + 1 + 1 + cnT (.sl K139) x.2.2.1), mkT txt (.sl K3) x.2.2.2.2.1 (k + 1 + 1 + cnT (.sl K139) x.2.2.1 + cnT (.sl K143) x.2.2.2.1), k + 1 + 1 + cnT (.sl K139) x.2.2.1 + cnT (.sl K143) x.2.2.2.1 + cnT (.sl K3) x.2.2.2.2.1, k + 1 + 1 + cnT (.sl K139) x.2.2.1 + cnT (.sl K143) x.2.2.2.1 + cnT (.sl K3) x.2.2.2.2.1 + 1, k + 1 + 1 + cnT (.sl K139) x.2.2.1 + cnT (.sl K143) x.2.2.2.1 + cnT (.sl K3) x.2.2.2.2.1 + 1 + 1, x.2.2.2.2.2.2.2.2)
noncomputable def R42_8 (x : Row K73) (k : Int) : Row K73 := (k, k + 1, mkT txt (.sl K139) x.2.2.1 (k + 1 + 1), mkT txt (.sl K143) x.2.2.2.1 (k + 1 + 1 + cnT (.sl K139) x.2.2.1), mkT txt (.sl K3) x.2.2.2.2.1 (k + 1 + 1 + cnT (.sl K139) x.2.2.1 + cnT (.sl K143) x.2.2.2.1), k + 1 + 1 + cnT (.sl K139) x.2.2.1 + cnT (.sl K143) x.2.2.2.1 + cnT (.sl K3) x.2.2.2.2.1, k + 1 + 1 + cnT (.sl K139) x.2.2.1 + cnT (.sl K143) x.2.2.2.1 + cnT (.sl K3) x.2.2.2.2.1 + 1, k + 1 + 1 + cnT (.sl K139) x.2.2.1 + cnT (.sl K143) x.2.2.2.1 + cnT (.sl K3) x.2.2.2.2.1 + 1 + 1, mkT txt (.sl K49) x.2.2.2.2.2.2.2.2.1 (k + 1 + 1 + cnT (.sl K139) x.2.2.1 + cnT (.sl K143) x.2.2.2.1 + cnT (.sl K3) x.2.2.2.2.1 + 1 + 1 + 1), x.2.2.2.2.2.2.2.2.2)
noncomputable def R42_9 (x : Row K73) (k : Int) : Row K73 := (k, k + 1, mkT txt (.sl K139) x.2.2.1 (k + 1 + 1), mkT txt (.sl K143) x.2.2.2.1 (k + 1 + 1 + cnT (.sl K139) x.2.2.1), mkT txt (.sl K3) x.2.2.2.2.1 (k + 1 + 1 + cnT (.sl K139) x.2.2.1 + cnT (.sl K143) x.2.2.2.1), k + 1 + 1 + cnT (.sl K139) x.2.2.1 + cnT (.sl K143) x.2.2.2.1 + cnT (.sl K3) x.2.2.2.2.1, k + 1 + 1 + cnT (.sl K139) x.2.2.1 + cnT (.sl K143) x.2.2.2.1 + cnT (.sl K3) x.2.2.2.2.1 + 1, k + 1 + 1 + cnT (.sl K139) x.2.2.1 + cnT (.sl K143) x.2.2.2.1 + cnT (.sl K3) x.2.2.2.2.1 + 1 + 1, mkT txt (.sl K49) x.2.2.2.2.2.2.2.2.1 (k + 1 + 1 + cnT (.sl K139) x.2.2.1 + cnT (.sl K143) x.2.2.2.1 + cnT (.sl K3) x.2.2.2.2.1 + 1 + 1 + 1), mkT txt (.sl K3) x.2.2.2.2.2.2.2.2.2.1 (k + 1 + 1 + cnT (.sl K139) x.2.2.1 + cnT (.sl K143) x.2.2.2.1 + cnT (.sl K3) x.2.2.2.2.1 + 1 + 1 + 1 + cnT (.sl K49) x.2.2.2.2.2.2.2.2.1), x.2.2.2.2.2.2.2.2.2.2)
noncomputable def R42_10 (x : Row K73) (k : Int) : Row K73 := (k, k + 1, mkT txt (.sl K139) x.2.2.1 (k + 1 + 1), mkT txt (.sl K143) x.2.2.2.1 (k + 1 + 1 + cnT (.sl K139) x.2.2.1), mkT txt (.sl K3) x.2.2.2.2.1 (k + 1 + 1 + cnT (.sl K139) x.2.2.1 + cnT (.sl K143) x.2.2.2.1), k + 1 + 1 + cnT (.sl K139) x.2.2.1 + cnT (.sl K143) x.2.2.2.1 + cnT (.sl K3) x.2.2.2.2.1, k + 1 + 1 + cnT (.sl K139) x.2.2.1 + cnT (.sl K143) x.2.2.2.1 + cnT (.sl K3) x.2.2.2.2.1 + 1, k + 1 + 1 + cnT (.sl K139) x.2.2.1 + cnT (.sl K143) x.2.2.2.1 + cnT (.sl K3) x.2.2.2.2.1 + 1 + 1, mkT txt (.sl K49) x.2.2.2.2.2.2.2.2.1 (k + 1 + 1 + cnT (.sl K139) x.2.2.1 + cnT (.sl K143) x.2.2.2.1 + cnT (.sl K3) x.2.2.2.2.1 + 1 + 1 + 1), mkT txt (.sl K3) x.2.2.2.2.2.2.2.2.2.1 (k + 1 + 1 + cnT (.sl K139) x.2.2.1 + cnT (.sl K143) x.2.2.2.1 + cnT (.sl K3) x.2.2.2.2.1 + 1 + 1 + 1 + cnT (.sl K49) x.2.2.2.2.2.2.2.2.1), mkT txt (.sl K3) x.2.2.2.2.2.2.2.2.2.2.1 (k + 1 + 1 + cnT (.sl K139) x.2.2.1 + cnT (.sl K143) x.2.2.2.1 + cnT (.sl K3) x.2.2.2.2.1 + 1 + 1 + 1 + cnT (.sl K49) x.2.2.2.2.2.2.2.2.1 + cnT (.sl K3) x.2.2.2.2.2.2.2.2.2.1), x.2.2.2.2.2.2.2.2.2.2.2)
noncomputable def R42_11 (x : Row K73) (k : Int) : Row K73 := (k, k + 1, mkT txt (.sl K139) x.2.2.1 (k + 1 + 1), mkT txt (.sl K143) x.2.2.2.1 (k + 1 + 1 + cnT (.sl K139) x.2.2.1), mkT txt (.sl K3) x.2.2.2.2.1 (k + 1 + 1 + cnT (.sl K139) x.2.2.1 + cnT (.sl K143) x.2.2.2.1), k + 1 + 1 + cnT (.sl K139) x.2.2.1 + cnT (.sl K143) x.2.2.2.1 + cnT (.sl K3) x.2.2.2.2.1, k + 1 + 1 + cnT (.sl K139) x.2.2.1 + cnT (.sl K143) x.2.2.2.1 + cnT (.sl K3) x.2.2.2.2.1 + 1, k + 1 + 1 + cnT (.sl K139) x.2.2.1 + cnT (.sl K143) x.2.2.2.1 + cnT (.sl K3) x.2.2.2.2.1 + 1 + 1, mkT txt (.sl K49) x.2.2.2.2.2.2.2.2.1 (k + 1 + 1 + cnT (.sl K139) x.2.2.1 + cnT (.sl K143) x.2.2.2.1 + cnT (.sl K3) x.2.2.2.2.1 + 1 + 1 + 1), mkT txt (.sl K3) x.2.2.2.2.2.2.2.2.2.1 (k + 1 + 1 + cnT (.sl K139) x.2.2.1 + cnT (.sl K143) x.2.2.2.1 + cnT (.sl K3) x.2.2.2.2.1 + 1 + 1 + 1 + cnT (.sl K49) x.2.2.2.2.2.2.2.2.1), mkT txt (.sl K3) x.2.2.2.2.2.2.2.2.2.2.1 (k + 1 + 1 + cnT (.sl K139) x.2.2.1 + cnT (.sl K143) x.2.2.2.1 + cnT (.sl K3) x.2.2.2.2.1 + 1 + 1 + 1 + cnT (.sl K49) x.2.2.2.2.2.2.2.2.1 + cnT (.sl K3) x.2.2.2.2.2.2.2.2.2.1), mkT txt (.sl K43) x.2.2.2.2.2.2.2.2.2.2.2.1 (k + 1 + 1 + cnT (.sl K139) x.2.2.1 + cnT (.sl K143) x.2.2.2.1 + cnT (.sl K3) x.2.2.2.2.1 + 1 + 1 + 1 + cnT (.sl K49) x.2.2.2.2.2.2.2.2.1 + cnT (.sl K3) x.2.2.2.2.2.2.2.2.2.1 + cnT (.sl K3) x.2.2.2.2.2.2.2.2.2.2.1), x.2.2.2.2.2.2.2.2.2.2.2.2)
noncomputable def R42_12 (x : Row K73) (k : Int) : Row K73 := (k, k + 1, mkT txt (.sl K139) x.2.2.1 (k + 1 + 1), mkT txt (.sl K143) x.2.2.2.1 (k + 1 + 1 + cnT (.sl K139) x.2.2.1), mkT txt (.sl K3) x.2.2.2.2.1 (k + 1 + 1 + cnT (.sl K139) x.2.2.1 + cnT (.sl K143) x.2.2.2.1), k + 1 + 1 + cnT (.sl K139) x.2.2.1 + cnT (.sl K143) x.2.2.2.1 + cnT (.sl K3) x.2.2.2.2.1, k + 1 + 1 + cnT (.sl K139) x.2.2.1 + cnT (.sl K143) x.2.2.2.1 + cnT (.sl K3) x.2.2.2.2.1 + 1, k + 1 + 1 + cnT (.sl K139) x.2.2.1 + cnT (.sl K143) x.2.2.2.1 + cnT (.sl K3) x.2.2.2.2.1 + 1 + 1, mkT txt (.sl K49) x.2.2.2.2.2.2.2.2.1 (k + 1 + 1 + cnT (.sl K139) x.2.2.1 + cnT (.sl K143) x.2.2.2.1 + cnT (.sl K3) x.2.2.2.2.1 + 1 + 1 + 1), mkT txt (.sl K3) x.2.2.2.2.2.2.2.2.2.1 (k + 1 + 1 + cnT (.sl K139) x.2.2.1 + cnT (.sl K143) x.2.2.2.1 + cnT (.sl K3) x.2.2.2.2.1 + 1 + 1 + 1 + cnT (.sl K49) x.2.2.2.2.2.2.2.2.1), mkT txt (.sl K3) x.2.2.2.2.2.2.2.2.2.2.1 (k + 1 + 1 + cnT (.sl K139) x.2.2.1 + cnT (.sl K143) x.2.2.2.1 + cnT (.sl K3) x.2.2.2.2.1 + 1 + 1 + 1 + cnT (.sl K49) x.2.2.2.2.2.2.2.2.1 + cnT (.sl K3) x.2.2.2.2.2.2.2.2.2.1), mkT txt (.sl K43) x.2.2.2.2.2.2.2.2.2.2.2.1 (k + 1 + 1 + cnT (.sl K139) x.2.2.1 + cnT (.sl K143) x.2.2.2.1 + cnT (.sl K3) x.2.2.2.2.1 + 1 + 1 + 1 + cnT (.sl K49) x.2.2.2.2.2.2.2.2.1 + cnT (.sl K3) x.2.2.2.2.2.2.2.2.2.1 + cnT (.sl K3) x.2.2.2.2.2.2.2.2.2.2.1), k + 1 + 1 + cnT (.sl K139) x.2.2.1 + cnT (.sl K143) x.2.2.2.1 + cnT (.sl K3) x.2.2.2.2.1 + 1 + 1 + 1 + cnT (.sl K49) x.2.2.2.2.2.2.2.2.1 + cnT (.sl K3) x.2.2.2.2.2.2.2.2.2.1 + cnT (.sl K3) x.2.2.2.2.2.2.2.2.2.2.1 + cnT (.sl K43) x.2.2.2.2.2.2.2.2.2.2.2.1, x.2.2.2.2.2.2.2.2.2.2.2.2.2)
noncomputable def R42_13 (x : Row K73) (k : Int) : Row K73 := (k, k + 1, mkT txt (.sl K139) x.2.2.1 (k + 1 + 1), mkT txt (.sl K143) x.2.2.2.1 (k + 1 + 1 + cnT (.sl K139) x.2.2.1), mkT txt (.sl K3) x.2.2.2.2.1 (k + 1 + 1 + cnT (.sl K139) x.2.2.1 + cnT (.sl K143) x.2.2.2.1), k + 1 + 1 + cnT (.sl K139) x.2.2.1 + cnT (.sl K143) x.2.2.2.1 + cnT (.sl K3) x.2.2.2.2.1, k + 1 + 1 + cnT (.sl K139) x.2.2.1 + cnT (.sl K143) x.2.2.2.1 + cnT (.sl K3) x.2.2.2.2.1 + 1, k + 1 + 1 + cnT (.sl K139) x.2.2.1 + cnT (.sl K143) x.2.2.2.1 + cnT (.sl K3) x.2.2.2.2.1 + 1 + 1, mkT txt (.sl K49) x.2.2.2.2.2.2.2.2.1 (k + 1 + 1 + cnT (.sl K139) x.2.2.1 + cnT (.sl K143) x.2.2.2.1 + cnT (.sl K3) x.2.2.2.2.1 + 1 + 1 + 1), mkT txt (.sl K3) x.2.2.2.2.2.2.2.2.2.1 (k + 1 + 1 + cnT (.sl K139) x.2.2.1 + cnT (.sl K143) x.2.2.2.1 + cnT (.sl K3) x.2.2.2.2.1 + 1 + 1 + 1 + cnT (.sl K49) x.2.2.2.2.2.2.2.2.1), mkT txt (.sl K3) x.2.2.2.2.2.2.2.2.2.2.1 (k + 1 + 1 + cnT (.sl K139) x.2.2.1 + cnT (.sl K143) x.2.2.2.1 + cnT (.sl K3) x.2.2.2.2.1 + 1 + 1 + 1 + cnT (.sl K49) x.2.2.2.2.2.2.2.2.1 + cnT (.sl K3) x.2.2.2.2.2.2.2.2.2.1), mkT txt (.sl K43) x.2.2.2.2.2.2.2.2.2.2.2.1 (k + 1 + 1 + cnT (.sl K139) x.2.2.1 + cnT (.sl K143) x.2.2.2.1 + cnT (.sl K3) x.2.2.2.2.1 + 1 + 1 + 1 + cnT (.sl K49) x.2.2.2.2.2.2.2.2.1 + cnT (.sl K3) x.2.2.2.2.2.2.2.2.2.1 + cnT (.sl K3) x.2.2.2.2.2.2.2.2.2.2.1), k + 1 + 1 + cnT (.sl K139) x.2.2.1 + cnT (.sl K143) x.2.2.2.1 + cnT (.sl K3) x.2.2.2.2.1 + 1 + 1 + 1 + cnT (.sl K49) x.2.2.2.2.2.2.2.2.1 + cnT (.sl K3) x.2.2.2.2.2.2.2.2.2.1 + cnT (.sl K3) x.2.2.2.2.2.2.2.2.2.2.1 + cnT (.sl K43) x.2.2.2.2.2.2.2.2.2.2.2.1, k + 1 + 1 + cnT (.sl K139) x.2.2.1 + cnT (.sl K143) x.2.2.2.1 + cnT (.sl K3) x.2.2.2.2.1 + 1 + 1 + 1 + cnT (.sl K49) x.2.2.2.2.2.2.2.2.1 + cnT (.sl K3) x.2.2.2.2.2.2.2.2.2.1 + cnT (.sl K3) x.2.2.2.2.2.2.2.2.2.2.1 + cnT (.sl K43) x.2.2.2.2.2.2.2.2.2.2.2.1 + 1, x.2.2.2.2.2.2.2.2.2.2.2.2.2.2)
noncomputable def R42_14 (x : Row K73) (k : Int) : Row K73 := (k, k + 1, mkT txt (.sl K139) x.2.2.1 (k + 1 + 1), mkT txt (.sl K143) x.2.2.2.1 (k + 1 + 1 + cnT (.sl K139) x.2.2.1), mkT txt (.sl K3) x.2.2.2.2.1 (k + 1 + 1 + cnT (.sl K139) x.2.2.1 + cnT (.sl K143) x.2.2.2.1), k + 1 + 1 + cnT (.sl K139) x.2.2.1 + cnT (.sl K143) x.2.2.2.1 + cnT (.sl K3) x.2.2.2.2.1, k + 1 + 1 + cnT (.sl K139) x.2.2.1 + cnT (.sl K143) x.2.2.2.1 + cnT (.sl K3) x.2.2.2.2.1 + 1, k + 1 + 1 + cnT (.sl K139) x.2.2.1 + cnT (.sl K143) x.2.2.2.1 + cnT (.sl K3) x.2.2.2.2.1 + 1 + 1, mkT txt (.sl K49) x.2.2.2.2.2.2.2.2.1 (k + 1 + 1 + cnT (.sl K139) x.2.2.1 + cnT (.sl K143) x.2.2.2.1 + cnT (.sl K3) x.2.2.2.2.1 + 1 + 1 + 1), mkT txt (.sl K3) x.2.2.2.2.2.2.2.2.2.1 (k + 1 + 1 + cnT (.sl K139) x.2.2.1 + cnT (.sl K143) x.2.2.2.1 + cnT (.sl K3) x.2.2.2.2.1 + 1 + 1 + 1 + cnT (.sl K49) x.2.2.2.2.2.2.2.2.1), mkT txt (.sl K3) x.2.2.2.2.2.2.2.2.2.2.1 (k + 1 + 1 + cnT (.sl K139) x.2.2.1 + cnT (.sl K143) x.2.2.2.1 + cnT (.sl K3) x.2.2.2.2.1 + 1 + 1 + 1 + cnT (.sl K49) x.2.2.2.2.2.2.2.2.1 + cnT (.sl K3) x.2.2.2.2.2.2.2.2.2.1), mkT txt (.sl K43) x.2.2.2.2.2.2.2.2.2.2.2.1 (k + 1 + 1 + cnT (.sl K139) x.2.2.1 + cnT (.sl K143) x.2.2.2.1 + cnT (.sl K3) x.2.2.2.2.1 + 1 + 1 + 1 + cnT (.sl K49) x.2.2.2.2.2.2.2.2.1 + cnT (.sl K3) x.2.2.2.2.2.2.2.2.2.1 + cnT (.sl K3) x.2.2.2.2.2.2.2.2.2.2.1), k + 1 + 1 + cnT (.sl K139) x.2.2.1 + cnT (.sl K143) x.2.2.2.1 + cnT (.sl K3) x.2.2.2.2.1 + 1 + 1 + 1 + cnT (.sl K49) x.2.2.2.2.2.2.2.2.1 + cnT (.sl K3) x.2.2.2.2.2.2.2.2.2.1 + cnT (.sl K3) x.2.2.2.2.2.2.2.2.2.2.1 + cnT (.sl K43) x.2.2.2.2.2.2.2.2.2.2.2.1, k + 1 + 1 + cnT (.sl K139) x.2.2.1 + cnT (.sl K143) x.2.2.2.1 + cnT (.sl K3) x.2.2.2.2.1 + 1 + 1 + 1 + cnT (.sl K49) x.2.2.2.2.2.2.2.2.1 + cnT (.sl K3) x.2.2.2.2.2.2.2.2.2.1 + cnT (.sl K3) x.2.2.2.2.2.2.2.2.2.2.1 + cnT (.sl K43) x.2.2.2.2.2.2.2.2.2.2.2.1 + 1, mkT txt (.sl K163) x.2.2.2.2.2.2.2.2.2.2.2.2.2.2.1 (k + 1 + 1 + cnT (.sl K139) x.2.2.1 + cnT (.sl K143) x.2.2.2.1 + cnT (.sl K3) x.2.2.2.2.1 + 1 + 1 + 1 + cnT (.sl K49) x.2.2.2.2.2.2.2.2.1 + cnT (.sl K3) x.2.2.2.2.2.2.2.2.2.1 + cnT (.sl K3) x.2.2.2.2.2.2.2.2.2.2.1 + cnT (.sl K43) x.2.2.2.2.2.2.2.2.2.2.2.1 + 1 + 1), x.2.2.2.2.2.2.2.2.2.2.2.2.2.2.2)
noncomputable def R42_15 (x : Row K73) (k : Int) : Row K73 := (k, k + 1, mkT txt (.sl K139) x.2.2.1 (k + 1 + 1), mkT txt (.sl K143) x.2.2.2.1 (k + 1 + 1 + cnT (.sl K139) x.2.2.1), mkT txt (.sl K3) x.2.2.2.2.1 (k + 1 + 1 + cnT (.sl K139) x.2.2.1 + cnT (.sl K143) x.2.2.2.1), k + 1 + 1 + cnT (.sl K139) x.2.2.1 + cnT (.sl K143) x.2.2.2.1 + cnT (.sl K3) x.2.2.2.2.1, k + 1 + 1 + cnT (.sl K139) x.2.2.1 + cnT (.sl K143) x.2.2.2.1 + cnT (.sl K3) x.2.2.2.2.1 + 1, k + 1 + 1 + cnT (.sl K139) x.2.2.1 + cnT (.sl K143) x.2.2.2.1 + cnT (.sl K3) x.2.2.2.2.1 + 1 + 1, mkT txt (.sl K49) x.2.2.2.2.2.2.2.2.1 (k + 1 + 1 + cnT (.sl K139) x.2.2.1 + cnT (.sl K143) x.2.2.2.1 + cnT (.sl K3) x.2.2.2.2.1 + 1 + 1 + 1), mkT txt (.sl K3) x.2.2.2.2.2.2.2.2.2.1 (k + 1 + 1 + cnT (.sl K139) x.2.2.1 + cnT (.sl K143) x.2.2.2.1 + cnT (.sl K3) x.2.2.2.2.1 + 1 + 1 + 1 + cnT (.sl K49) x.2.2.2.2.2.2.2.2.1), mkT txt (.sl K3) x.2.2.2.2.2.2.2.2.2.2.1 (k + 1 + 1 + cnT (.sl K139) x.2.2.1 + cnT (.sl K143) x.2.2.2.1 + cnT (.sl K3) x.2.2.2.2.1 + 1 + 1 + 1 + cnT (.sl K49) x.2.2.2.2.2.2.2.2.1 + cnT (.sl K3) x.2.2.2.2.2.2.2.2.2.1), mkT txt (.sl K43) x.2.2.2.2.2.2.2.2.2.2.2.1 (k + 1 + 1 + cnT (.sl K139) x.2.2.1 + cnT (.sl K143) x.2.2.2.1 + cnT (.sl K3) x.2.2.2.2.1 + 1 + 1 + 1 + cnT (.sl K49) x.2.2.2.2.2.2.2.2.1 + cnT (.sl K3) x.2.2.2.2.2.2.2.2.2.1 + cnT (.sl K3) x.2.2.2.2.2.2.2.2.2.2.1), k + 1 + 1 + cnT (.sl K139) x.2.2.1 + cnT (.sl K143) x.2.2.2.1 + cnT (.sl K3) x.2.2.2.2.1 + 1 + 1 + 1 + cnT (.sl K49) x.2.2.2.2.2.2.2.2.1 + cnT (.sl K3) x.2.2.2.2.2.2.2.2.2.1 + cnT (.sl K3) x.2.2.2.2.2.2.2.2.2.2.1 + cnT (.sl K43) x.2.2.2.2.2.2.2.2.2.2.2.1, k + 1 + 1 + cnT (.sl K139) x.2.2.1 + cnT (.sl K143) x.2.2.2.1 + cnT (.sl K3) x.2.2.2.2.1 + 1 + 1 + 1 + cnT (.sl K49) x.2.2.2.2.2.2.2.2.1 + cnT (.sl K3) x.2.2.2.2.2.2.2.2.2.1 + cnT (.sl K3) x.2.2.2.2.2.2.2.2.2.2.1 + cnT (.sl K43) x.2.2.2.2.2.2.2.2.2.2.2.1 + 1, mkT txt (.sl K163) x.2.2.2.2.2.2.2.2.2.2.2.2.2.2.1 (k + 1 + 1 + cnT (.sl K139) x.2.2.1 + cnT (.sl K143) x.2.2.2.1 + cnT (.sl K3) x.2.2.2.2.1 + 1 + 1 + 1 + cnT (.sl K49) x.2.2.2.2.2.2.2.2.1 + cnT (.sl K3) x.2.2.2.2.2.2.2.2.2.1 + cnT (.sl K3) x.2.2.2.2.2.2.2.2.2.2.1 + cnT (.sl K43) x.2.2.2.2.2.2.2.2.2.2.2.1 + 1 + 1), k + 1 + 1 + cnT (.sl K139) x.2.2.1 + cnT (.sl K143) x.2.2.2.1 + cnT (.sl K3) x.2.2.2.2.1 + 1 + 1 + 1 + cnT (.sl K49) x.2.2.2.2.2.2.2.2.1 + cnT (.sl K3) x.2.2.2.2.2.2.2.2.2.1 + cnT (.sl K3) x.2.2.2.2.2.2.2.2.2.2.1 + cnT (.sl K43) x.2.2.2.2.2.2.2.2.2.2.2.1 + 1 + 1 + cnT (.sl K163) x.2.2.2.2.2.2.2.2.2.2.2.2.2.2.1, x.2.2.2.2.2.2.2.2.2.2.2.2.2.2.2.2)
noncomputable def R42_16 (x : Row K73) (k : Int) : Row K73 := (k, k + 1, mkT txt (.sl K139) x.2.2.1 (k + 1 + 1), mkT txt (.sl K143) x.2.2.2.1 (k + 1 + 1 + cnT (.sl K139) x.2.2.1), mkT txt (.sl K3) x.2.2.2.2.1 (k + 1 + 1 + cnT (.sl K139) x.2.2.1 + cnT (.sl K143) x.2.2.2.1), k + 1 + 1 + cnT (.sl K139) x.2.2.1 + cnT (.sl K143) x.2.2.2.1 + cnT (.sl K3) x.2.2.2.2.1, k + 1 + 1 + cnT (.sl K139) x.2.2.1 + cnT (.sl K143) x.2.2.2.1 + cnT (.sl K3) x.2.2.2.2.1 + 1, k + 1 + 1 + cnT (.sl K139) x.2.2.1 + cnT (.sl K143) x.2.2.2.1 + cnT (.sl K3) x.2.2.2.2.1 + 1 + 1, mkT txt (.sl K49) x.2.2.2.2.2.2.2.2.1 (k + 1 + 1 + cnT (.sl K139) x.2.2.1 + cnT (.sl K143) x.2.2.2.1 + cnT (.sl K3) x.2.2.2.2.1 + 1 + 1 + 1), mkT txt (.sl K3) x.2.2.2.2.2.2.2.2.2.1 (k + 1 + 1 + cnT (.sl K139) x.2.2.1 + cnT (.sl K143) x.2.2.2.1 + cnT (.sl K3) x.2.2.2.2.1 + 1 + 1 + 1 + cnT (.sl K49) x.2.2.2.2.2.2.2.2.1), mkT txt (.sl K3) x.2.2.2.2.2.2.2.2.2.2.1 (k + 1 + 1 + cnT (.sl K139) x.2.2.1 + cnT (.sl K143) x.2.2.2.1 + cnT (.sl K3) x.2.2.2.2.1 + 1 + 1 + 1 + cnT (.sl K49) x.2.2.2.2.2.2.2.2.1 + cnT (.sl K3) x.2.2.2.2.2.2.2.2.2.1), mkT txt (.sl K43) x.2.2.2.2.2.2.2.2.2.2.2.1 (k + 1 + 1 + cnT (.sl K139) x.2.2.1 + cnT (.sl K143) x.2.2.2.1 + cnT (.sl K3) x.2.2.2.2.1 + 1 + 1 + 1 + cnT (.sl K49) x.2.2.2.2.2.2.2.2.1 + cnT (.sl K3) x.2.2.2.2.2.2.2.2.2.1 + cnT (.sl K3) x.2.2.2.2.2.2.2.2.2.2.1), k + 1 + 1 + cnT (.sl K139) x.2.2.1 + cnT (.sl K143) x.2.2.2.1 + cnT (.sl K3) x.2.2.2.2.1 + 1 + 1 + 1 + cnT (.sl K49) x.2.2.2.2.2.2.2.2.1 + cnT (.sl K3) x.2.2.2.2.2.2.2.2.2.1 + cnT (.sl K3) x.2.2.2.2.2.2.2.2.2.2.1 + cnT (.sl K43) x.2.2.2.2.2.2.2.2.2.2.2.1, k + 1 + 1 + cnT (.sl K139) x.2.2.1 + cnT (.sl K143) x.2.2.2.1 + cnT (.sl K3) x.2.2.2.2.1 + 1 + 1 + 1 + cnT (.sl K49) x.2.2.2.2.2.2.2.2.1 + cnT (.sl K3) x.2.2.2.2.2.2.2.2.2.1 + cnT (.sl K3) x.2.2.2.2.2.2.2.2.2.2.1 + cnT (.sl K43) x.2.2.2.2.2.2.2.2.2.2.2.1 + 1, mkT txt (.sl K163) x.2.2.2.2.2.2.2.2.2.2.2.2.2.2.1 (k + 1 + 1 + cnT (.sl K139) x.2.2.1 + cnT (.sl K143) x.2.2.2.1 + cnT (.sl K3) x.2.2.2.2.1 + 1 + 1 + 1 + cnT (.sl K49) x.2.2.2.2.2.2.2.2.1 + cnT (.sl K3) x.2.2.2.2.2.2.2.2.2.1 + cnT (.sl K3) x.2.2.2.2.2.2.2.2.2.2.1 + cnT (.sl K43) x.2.2.2.2.2.2.2.2.2.2.2.1 + 1 + 1), k + 1 + 1 + cnT (.sl K139) x.2.2.1 + cnT (.sl K143) x.2.2.2.1 + cnT (.sl K3) x.2.2.2.2.1 + 1 + 1 + 1 + cnT (.sl K49) x.2.2.2.2.2.2.2.2.1 + cnT (.sl K3) x.2.2.2.2.2.2.2.2.2.1 + cnT (.sl K3) x.2.2.2.2.2.2.2.2.2.2.1 + cnT (.sl K43) x.2.2.2.2.2.2.2.2.2.2.2.1 + 1 + 1 + cnT (.sl K163) x.2.2.2.2.2.2.2.2.2.2.2.2.2.2.1, k + 1 + 1 + cnT (.sl K139) x.2.2.1 + cnT (.sl K143) x.2.2.2.1 + cnT (.sl K3) x.2.2.2.2.1 + 1 + 1 + 1 + cnT (.sl K49) x.2.2.2.2.2.2.2.2.1 + cnT (.sl K3) x.2.2.2.2.2.2.2.2.2.1 + cnT (.sl K3) x.2.2.2.2.2.2.2.2.2.2.1 + cnT (.sl K43) x.2.2.2.2.2.2.2.2.2.2.2.1 + 1 + 1 + cnT (.sl K163) x.2.2.2.2.2.2.2.2.2.2.2.2.2.2.1 + 1, x.2.2.2.2.2.2.2.2.2.2.2.2.2.2.2.2.2)
noncomputable def R42_17 (x : Row K73) (k : Int) : Row K73 := (k, k + 1, mkT txt (.sl K139) x.2.2.1 (k + 1 + 1), mkT txt (.sl K143) x.2.2.2.1 (k + 1 + 1 + cnT (.sl K139) x.2.2.1), mkT txt (.sl K3) x.2.2.2.2.1 (k + 1 + 1 + cnT (.sl K139) x.2.2.1 + cnT (.sl K143) x.2.2.2.1), k + 1 + 1 + cnT (.sl K139) x.2.2.1 + cnT (.sl K143) x.2.2.2.1 + cnT (.sl K3) x.2.2.2.2.1, k + 1 + 1 + cnT (.sl K139) x.2.2.1 + cnT (.sl K143) x.2.2.2.1 + cnT (.sl K3) x.2.2.2.2.1 + 1, k + 1 + 1 + cnT (.sl K139) x.2.2.1 + cnT (.sl K143) x.2.2.2.1 + cnT (.sl K3) x.2.2.2.2.1 + 1 + 1, mkT txt (.sl K49) x.2.2.2.2.2.2.2.2.1 (k + 1 + 1 + cnT (.sl K139) x.2.2.1 + cnT (.sl K143) x.2.2.2.1 + cnT (.sl K3) x.2.2.2.2.1 + 1 + 1 + 1), mkT txt (.sl K3) x.2.2.2.2.2.2.2.2.2.1 (k + 1 + 1 + cnT (.sl K139) x.2.2.1 + cnT (.sl K143) x.2.2.2.1 + cnT (.sl K3) x.2.2.2.2.1 + 1 + 1 + 1 + cnT (.sl K49) x.2.2.2.2.2.2.2.2.1), mkT txt (.sl K3) x.2.2.2.2.2.2.2.2.2.2.1 (k + 1 + 1 + cnT (.sl K139) x.2.2.1 + cnT (.sl K143) x.2.2.2.1 + cnT (.sl K3) x.2.2.2.2.1 + 1 + 1 + 1 + cnT (.sl K49) x.2.2.2.2.2.2.2.2.1 + cnT (.sl K3) x.2.2.2.2.2.2.2.2.2.1), mkT txt (.sl K43) x.2.2.2.2.2.2.2.2.2.2.2.1 (k + 1 + 1 + cnT (.sl K139) x.2.2.1 + cnT (.sl K143) x.2.2.2.1 + cnT (.sl K3) x.2.2.2.2.1 + 1 + 1 + 1 + cnT (.sl K49) x.2.2.2.2.2.2.2.2.1 + cnT (.sl K3) x.2.2.2.2.2.2.2.2.2.1 + cnT (.sl K3) x.2.2.2.2.2.2.2.2.2.2.1), k + 1 + 1 + cnT (.sl K139) x.2.2.1 + cnT (.sl K143) x.2.2.2.1 + cnT (.sl K3) x.2.2.2.2.1 + 1 + 1 + 1 + cnT (.sl K49) x.2.2.2.2.2.2.2.2.1 + cnT (.sl K3) x.2.2.2.2.2.2.2.2.2.1 + cnT (.sl K3) x.2.2.2.2.2.2.2.2.2.2.1 + cnT (.sl K43) x.2.2.2.2.2.2.2.2.2.2.2.1, k + 1 + 1 + cnT (.sl K139) x.2.2.1 + cnT (.sl K143) x.2.2.2.1 + cnT (.sl K3) x.2.2.2.2.1 + 1 + 1 + 1 + cnT (.sl K49) x.2.2.2.2.2.2.2.2.1 + cnT (.sl K3) x.2.2.2.2.2.2.2.2.2.1 + cnT (.sl K3) x.2.2.2.2.2.2.2.2.2.2.1 + cnT (.sl K43) x.2.2.2.2.2.2.2.2.2.2.2.1 + 1, mkT txt (.sl K163) x.2.2.2.2.2.2.2.2.2.2.2.2.2.2.1 (k + 1 + 1 + cnT (.sl K139) x.2.2.1 + cnT (.sl K143) x.2.2.2.1 + cnT (.sl K3) x.2.2.2.2.1 + 1 + 1 + 1 + cnT (.sl K49) x.2.2.2.2.2.2.2.2.1 + cnT (.sl K3) x.2.2.2.2.2.2.2.2.2.1 + cnT (.sl K3) x.2.2.2.2.2.2.2.2.2.2.1 + cnT (.sl K43) x.2.2.2.2.2.2.2.2.2.2.2.1 + 1 + 1), k + 1 + 1 + cnT (.sl K139) x.2.2.1 + cnT (.sl K143) x.2.2.2.1 + cnT (.sl K3) x.2.2.2.2.1 + 1 + 1 + 1 + cnT (.sl K49) x.2.2.2.2.2.2.2.2.1 + cnT (.sl K3) x.2.2.2.2.2.2.2.2.2.1 + cnT (.sl K3) x.2.2.2.2.2.2.2.2.2.2.1 + cnT (.sl K43) x.2.2.2.2.2.2.2.2.2.2.2.1 + 1 + 1 + cnT (.sl K163) x.2.2.2.2.2.2.2.2.2.2.2.2.2.2.1, k + 1 + 1 + cnT (.sl K139) x.2.2.1 + cnT (.sl K143) x.2.2.2.1 + cnT (.sl K3) x.2.2.2.2.1 + 1 + 1 + 1 + cnT (.sl K49) x.2.2.2.2.2.2.2.2.1 + cnT (.sl K3) x.2.2.2.2.2.2.2.2.2.1 + cnT (.sl K3) x.2.2.2.2.2.2.2.2.2.2.1 + cnT (.sl K43) x.2.2.2.2.2.2.2.2.2.2.2.1 + 1 + 1 + cnT (.sl K163) x.2.2.2.2.2.2.2.2.2.2.2.2.2.2.1 + 1, k + 1 + 1 + cnT (.sl K139) x.2.2.1 + cnT (.sl K143) x.2.2.2.1 + cnT (.sl K3) x.2.2.2.2.1 + 1 + 1 + 1 + cnT (.sl K49) x.2.2.2.2.2.2.2.2.1 + cnT (.sl K3) x.2.2.2.2.2.2.2.2.2.1 + cnT (.sl K3) x.2.2.2.2.2.2.2.2.2.2.1 + cnT (.sl K43) x.2.2.2.2.2.2.2.2.2.2.2.1 + 1 + 1 + cnT (.sl K163) x.2.2.2.2.2.2.2.2.2.2.2.2.2.2.1 + 1 + 1, x.2.2.2.2.2.2.2.2.2.2.2.2.2.2.2.2.2.2)
noncomputable def R42_18 (x : Row K73) (k : Int) : Row K73 := (k, k + 1, mkT txt (.sl K139) x.2.2.1 (k + 1 + 1), mkT txt (.sl K143) x.2.2.2.1 (k + 1 + 1 + cnT (.sl K139) x.2.2.1), mkT txt (.sl K3) x.2.2.2.2.1 (k + 1 + 1 + cnT (.sl K139) x.2.2.1 + cnT (.sl K143) x.2.2.2.1), k + 1 + 1 + cnT (.sl K139) x.2.2.1 + cnT (.sl K143) x.2.2.2.1 + cnT (.sl K3) x.2.2.2.2.1, k + 1 + 1 + cnT (.sl K139) x.2.2.1 + cnT (.sl K143) x.2.2.2.1 + cnT (.sl K3) x.2.2.2.2.1 + 1, k + 1 + 1 + cnT (.sl K139) x.2.2.1 + cnT (.sl K143) x.2.2.2.1 + cnT (.sl K3) x.2.2.2.2.1 + 1 + 1, mkT txt (.sl K49) x.2.2.2.2.2.2.2.2.1 (k + 1 + 1 + cnT (.sl K139) x.2.2.1 + cnT (.sl K143) x.2.2.2.1 + cnT (.sl K3) x.2.2.2.2.1 + 1 + 1 + 1), mkT txt (.sl K3) x.2.2.2.2.2.2.2.2.2.1 (k + 1 + 1 + cnT (.sl K139) x.2.2.1 + cnT (.sl K143) x.2.2.2.1 + cnT (.sl K3) x.2.2.2.2.1 + 1 + 1 + 1 + cnT (.sl K49) x.2.2.2.2.2.2.2.2.1), mkT txt (.sl K3) x.2.2.2.2.2.2.2.2.2.2.1 (k + 1 + 1 + cnT (.sl K139) x.2.2.1 + cnT (.sl K143) x.2.2.2.1 + cnT (.sl K3) x.2.2.2.2.1 + 1 + 1 + 1 + cnT (.sl K49) x.2.2.2.2.2.2.2.2.1 + cnT (.sl K3) x.2.2.2.2.2.2.2.2.2.1), mkT txt (.sl K43) x.2.2.2.2.2.2.2.2.2.2.2.1 (k + 1 + 1 + cnT (.sl K139) x.2.2.1 + cnT (.sl K143) x.2.2.2.1 + cnT (.sl K3) x.2.2.2.2.1 + 1 + 1 + 1 + cnT (.sl K49) x.2.2.2.2.2.2.2.2.1 + cnT (.sl K3) x.2.2.2.2.2.2.2.2.2.1 + cnT (.sl K3) x.2.2.2.2.2.2.2.2.2.2.1), k + 1 + 1 + cnT (.sl K139) x.2.2.1 + cnT (.sl K143) x.2.2.2.1 + cnT (.sl K3) x.2.2.2.2.1 + 1 + 1 + 1 + cnT (.sl K49) x.2.2.2.2.2.2.2.2.1 + cnT (.sl K3) x.2.2.2.2.2.2.2.2.2.1 + cnT (.sl K3) x.2.2.2.2.2.2.2.2.2.2.1 + cnT (.sl K43) x.2.2.2.2.2.2.2.2.2.2.2.1, k + 1 + 1 + cnT (.sl K139) x.2.2.1 + cnT (.sl K143) x.2.2.2.1 + cnT (.sl K3) x.2.2.2.2.1 + 1 + 1 + 1 + cnT (.sl K49) x.2.2.2.2.2.2.2.2.1 + cnT (.sl K3) x.2.2.2.2.2.2.2.2.2.1 + cnT (.sl K3) x.2.2.2.2.2.2.2.2.2.2.1 + cnT (.sl K43) x.2.2.2.2.2.2.2.2.2.2.2.1 + 1, mkT txt (.sl K163) x.2.2.2.2.2.2.2.2.2.2.2.2.2.2.1 (k + 1 + 1 + cnT (.sl K139) x.2.2.1 + cnT (.sl K143) x.2.2.2.1 + cnT (.sl K3) x.2.2.2.2.1 + 1 + 1 + 1 + cnT (.sl K49) x.2.2.2.2.2.2.2.2.1 + cnT (.sl K3) x.2.2.2.2.2.2.2.2.2.1 + cnT (.sl K3) x.2.2.2.2.2.2.2.2.2.2.1 + cnT (.sl K43) x.2.2.2.2.2.2.2.2.2.2.2.1 + 1 + 1), k + 1 + 1 + cnT (.sl K139) x.2.2.1 + cnT (.sl K143) x.2.2.2.1 + cnT (.sl K3) x.2.2.2.2.1 + 1 + 1 + 1 + cnT (.sl K49) x.2.2.2.2.2.2.2.2.1 + cnT (.sl K3) x.2.2.2.2.2.2.2.2.2.1 + cnT (.sl K3) x.2.2.2.2.2.2.2.2.2.2.1 + cnT (.sl K43) x.2.2.2.2.2.2.2.2.2.2.2.1 + 1 + 1 + cnT (.sl K163) x.2.2.2.2.2.2.2.2.2.2.2.2.2.2.1, k + 1 + 1 + cnT (.sl K139) x.2.2.1 + cnT (.sl K143) x.2.2.2.1 + cnT (.sl K3) x.2.2.2.2.1 + 1 + 1 + 1 + cnT (.sl K49) x.2.2.2.2.2.2.2.2.1 + cnT (.sl K3) x.2.2.2.2.2.2.2.2.2.1 + cnT (.sl K3) x.2.2.2.2.2.2.2.2.2.2.1 + cnT (.sl K43) x.2.2.2.2.2.2.2.2.2.2.2.1 + 1 + 1 + cnT (.sl K163) x.2.2.2.2.2.2.2.2.2.2.2.2.2.2.1 + 1, k + 1 + 1 + cnT (.sl K139) x.2.2.1 + cnT (.sl K143) x.2.2.2.1 + cnT (.sl K3) x.2.2.2.2.1 + 1 + 1 + 1 + cnT (.sl K49) x.2.2.2.2.2.2.2.2.1 + cnT (.sl K3) x.2.2.2.2.2.2.2.2.2.1 + cnT (.sl K3) x.2.2.2.2.2.2.2.2.2.2.1 + cnT (.sl K43) x.2.2.2.2.2.2.2.2.2.2.2.1 + 1 + 1 + cnT (.sl K163) x.2.2.2.2.2.2.2.2.2.2.2.2.2.2.1 + 1 + 1, mkT txt (.sl K171) x.2.2.2.2.2.2.2.2.2.2.2.2.2.2.2.2.2.2.1 (k + 1 + 1 + cnT (.sl K139) x.2.2.1 + cnT (.sl K143) x.2.2.2.1 + cnT (.sl K3) x.2.2.2.2.1 + 1 + 1 + 1 + cnT (.sl K49) x.2.2.2.2.2.2.2.2.1 + cnT (.sl K3) x.2.2.2.2.2.2.2.2.2.1 + cnT (.sl K3) x.2.2.2.2.2.2.2.2.2.2.1 + cnT (.sl K43) x.2.2.2.2.2.2.2.2.2.2.2.1 + 1 + 1 + cnT (.sl K163) x.2.2.2.2.2.2.2.2.2.2.2.2.2.2.1 + 1 + 1 + 1), x.2.2.2.2.2.2.2.2.2.2.2.2.2.2.2.2.2.2.2)
theorem mk42 (a0_0 : List (Row K73)) (k : Int) (h0 : 0 ≤ k) (h1 : k + cnT (.sl K73) a0_0 ≤ 4611686018427387904) (hL : LmT (.sl K73) a0_0) : Ran p 4 42 [.own false ⟨K22, (a0_0, ())⟩, .val false ⟨K3, (k, ())⟩] ⟨[⟨K3, (k + cnT (.sl K73) a0_0, ())⟩], [⟨K22, (mkT txt (.sl K73) a0_0 k, ())⟩]⟩ := go42 fun n hn => by
 refine Ev.eq (fun fuel => by unfold T42; rfl) ?_
 refine It.ev (c := fun fuel (_ : Unit) => c42_2 (arun p n) fuel) (i := ()) (r := fun _ => some ⟨[⟨K3, (k + cnT (.sl K73) a0_0, ())⟩], [⟨K22, (mkT txt (.sl K73) a0_0 k, ())⟩]⟩) ?_ rfl
 have hlen : List.length a0_0 ≤ 4611686018427387904 := hL.1
 refine mark_loop (mkR txt K73) (cnR K73) (cnR_nn K73) a0_0 k 4611686018427387904 h0 h1 (fun i k ys => (k, ((i : Int), ys))) (fun i hi ys k hy ha hk hB fuel a rec => ?_) (fun fuel a rec => ?_)
 ·have hb : i < 9223372036854775807 := by omega
  have hx := hL.2 i a0_0[i] (at_lt hi)
  generalize a0_0[i] = x at *
  have hc : cnR K73 x = (1 + (1 + (cnT (.sl K139) x.2.2.1 + (cnT (.sl K143) x.2.2.2.1 + (cnT (.sl K3) x.2.2.2.2.1 + (1 + (1 + (1 + (cnT (.sl K49) x.2.2.2.2.2.2.2.2.1 + (cnT (.sl K3) x.2.2.2.2.2.2.2.2.2.1 + (cnT (.sl K3) x.2.2.2.2.2.2.2.2.2.2.1 + (cnT (.sl K43) x.2.2.2.2.2.2.2.2.2.2.2.1 + (1 + (1 + (cnT (.sl K163) x.2.2.2.2.2.2.2.2.2.2.2.2.2.2.1 + (1 + (1 + (1 + (cnT (.sl K171) x.2.2.2.2.2.2.2.2.2.2.2.2.2.2.2.2.2.2.1 + 0))))))))))))))))))) := rfl
  have hr : mkR txt K73 x k = ((k, k + 1, mkT txt (.sl K139) x.2.2.1 (k + 1 + 1), mkT txt (.sl K143) x.2.2.2.1 (k + 1 + 1 + cnT (.sl K139) x.2.2.1), mkT txt (.sl K3) x.2.2.2.2.1 (k + 1 + 1 + cnT (.sl K139) x.2.2.1 + cnT (.sl K143) x.2.2.2.1), k + 1 + 1 + cnT (.sl K139) x.2.2.1 + cnT (.sl K143) x.2.2.2.1 + cnT (.sl K3) x.2.2.2.2.1, k + 1 + 1 + cnT (.sl K139) x.2.2.1 + cnT (.sl K143) x.2.2.2.1 + cnT (.sl K3) x.2.2.2.2.1 + 1, k + 1 + 1 + cnT (.sl K139) x.2.2.1 + cnT (.sl K143) x.2.2.2.1 + cnT (.sl K3) x.2.2.2.2.1 + 1 + 1, mkT txt (.sl K49) x.2.2.2.2.2.2.2.2.1 (k + 1 + 1 + cnT (.sl K139) x.2.2.1 + cnT (.sl K143) x.2.2.2.1 + cnT (.sl K3) x.2.2.2.2.1 + 1 + 1 + 1), mkT txt (.sl K3) x.2.2.2.2.2.2.2.2.2.1 (k + 1 + 1 + cnT (.sl K139) x.2.2.1 + cnT (.sl K143) x.2.2.2.1 + cnT (.sl K3) x.2.2.2.2.1 + 1 + 1 + 1 + cnT (.sl K49) x.2.2.2.2.2.2.2.2.1), mkT txt (.sl K3) x.2.2.2.2.2.2.2.2.2.2.1 (k + 1 + 1 + cnT (.sl K139) x.2.2.1 + cnT (.sl K143) x.2.2.2.1 + cnT (.sl K3) x.2.2.2.2.1 + 1 + 1 + 1 + cnT (.sl K49) x.2.2.2.2.2.2.2.2.1 + cnT (.sl K3) x.2.2.2.2.2.2.2.2.2.1), mkT txt (.sl K43) x.2.2.2.2.2.2.2.2.2.2.2.1 (k + 1 + 1 + cnT (.sl K139) x.2.2.1 + cnT (.sl K143) x.2.2.2.1 + cnT (.sl K3) x.2.2.2.2.1 + 1 + 1 + 1 + cnT (.sl K49) x.2.2.2.2.2.2.2.2.1 + cnT (.sl K3) x.2.2.2.2.2.2.2.2.2.1 + cnT (.sl K3) x.2.2.2.2.2.2.2.2.2.2.1), k + 1 + 1 + cnT (.sl K139) x.2.2.1 + cnT (.sl K143) x.2.2.2.1 + cnT (.sl K3) x.2.2.2.2.1 + 1 + 1 + 1 + cnT (.sl K49) x.2.2.2.2.2.2.2.2.1 + cnT (.sl K3) x.2.2.2.2.2.2.2.2.2.1 + cnT (.sl K3) x.2.2.2.2.2.2.2.2.2.2.1 + cnT (.sl K43) x.2.2.2.2.2.2.2.2.2.2.2.1, k + 1 + 1 + cnT (.sl K139) x.2.2.1 + cnT (.sl K143) x.2.2.2.1 + cnT (.sl K3) x.2.2.2.2.1 + 1 + 1 + 1 + cnT (.sl K49) x.2.2.2.2.2.2.2.2.1 + cnT (.sl K3) x.2.2.2.2.2.2.2.2.2.1 + cnT (.sl K3) x.2.2.2.2.2.2.2.2.2.2.1 + cnT (.sl K43) x.2.2.2.2.2.2.2.2.2.2.2.1 + 1, mkT txt (.sl K163) x.2.2.2.2.2.2.2.2.2.2.2.2.2.2.1 (k + 1 + 1 + cnT (.sl K139) x.2.2.1 + cnT (.sl K143) x.2.2.2.1 + cnT (.sl K3) x.2.2.2.2.1 + 1 + 1 + 1 + cnT (.sl K49) x.2.2.2.2.2.2.2.2.1 + cnT (.sl K3) x.2.2.2.2.2.2.2.2.2.1 + cnT (.sl K3) x.2.2.2.2.2.2.2.2.2.2.1 + cnT (.sl K43) x.2.2.2.2.2.2.2.2.2.2.2.1 + 1 + 1), k + 1 + 1 + cnT (.sl K139) x.2.2.1 + cnT (.sl K143) x.2.2.2.1 + cnT (.sl K3) x.2.2.2.2.1 + 1 + 1 + 1 + cnT (.sl K49) x.2.2.2.2.2.2.2.2.1 + cnT (.sl K3) x.2.2.2.2.2.2.2.2.2.1 + cnT (.sl K3) x.2.2.2.2.2.2.2.2.2.2.1 + cnT (.sl K43) x.2.2.2.2.2.2.2.2.2.2.2.1 + 1 + 1 + cnT (.sl K163) x.2.2.2.2.2.2.2.2.2.2.2.2.2.2.1, k + 1 + 1 + cnT (.sl K139) x.2.2.1 + cnT (.sl K143) x.2.2.2.1 + cnT (.sl K3) x.2.2.2.2.1 + 1 + 1 + 1 + cnT (.sl K49) x.2.2.2.2.2.2.2.2.1 + cnT (.sl K3) x.2.2.2.2.2.2.2.2.2.1 + cnT (.sl K3) x.2.2.2.2.2.2.2.2.2.2.1 + cnT (.sl K43) x.2.2.2.2.2.2.2.2.2.2.2.1 + 1 + 1 + cnT (.sl K163) x.2.2.2.2.2.2.2.2.2.2.2.2.2.2.1 + 1, k + 1 + 1 + cnT (.sl K139) x.2.2.1 + cnT (.sl K143) x.2.2.2.1 + cnT (.sl K3) x.2.2.2.2.1 + 1 + 1 + 1 + cnT (.sl K49) x.2.2.2.2.2.2.2.2.1 + cnT (.sl K3) x.2.2.2.2.2.2.2.2.2.1 + cnT (.sl K3) x.2.2.2.2.2.2.2.2.2.2.1 + cnT (.sl K43) x.2.2.2.2.2.2.2.2.2.2.2.1 + 1 + 1 + cnT (.sl K163) x.2.2.2.2.2.2.2.2.2.2.2.2.2.2.1 + 1 + 1, mkT txt (.sl K171) x.2.2.2.2.2.2.2.2.2.2.2.2.2.2.2.2.2.2.1 (k + 1 + 1 + cnT (.sl K139) x.2.2.1 + cnT (.sl K143) x.2.2.2.1 + cnT (.sl K3) x.2.2.2.2.1 + 1 + 1 + 1 + cnT (.sl K49) x.2.2.2.2.2.2.2.2.1 + cnT (.sl K3) x.2.2.2.2.2.2.2.2.2.1 + cnT (.sl K3) x.2.2.2.2.2.2.2.2.2.2.1 + cnT (.sl K43) x.2.2.2.2.2.2.2.2.2.2.2.1 + 1 + 1 + cnT (.sl K163) x.2.2.2.2.2.2.2.2.2.2.2.2.2.2.1 + 1 + 1 + 1), ()) : Row K73) := rfl
  rw [hc] at hB ⊢
  rw [hr]
  have n2 := cnT_nn (.sl K139) x.2.2.1
  have n3 := cnT_nn (.sl K143) x.2.2.2.1
  have n4 := cnT_nn (.sl K3) x.2.2.2.2.1
  have n8 := cnT_nn (.sl K49) x.2.2.2.2.2.2.2.2.1
  have n9 := cnT_nn (.sl K3) x.2.2.2.2.2.2.2.2.2.1
  have n10 := cnT_nn (.sl K3) x.2.2.2.2.2.2.2.2.2.2.1
  have n11 := cnT_nn (.sl K43) x.2.2.2.2.2.2.2.2.2.2.2.1
  have n14 := cnT_nn (.sl K163) x.2.2.2.2.2.2.2.2.2.2.2.2.2.2.1
  have n18 := cnT_nn (.sl K171) x.2.2.2.2.2.2.2.2.2.2.2.2.2.2.2.2.2.2.1
  have f2 := mk64 x.2.2.1 (k + 1 + 1) (by omega) (by omega) (show LmT (.sl K139) x.2.2.1 from hx.2.2.1) n (by omega)
  have f3 := mk65 x.2.2.2.1 (k + 1 + 1 + cnT (.sl K139) x.2.2.1) (by omega) (by omega) (show LmT (.sl K143) x.2.2.2.1 from hx.2.2.2.1) n (by omega)
  have f4 := mk23 x.2.2.2.2.1 (k + 1 + 1 + cnT (.sl K139) x.2.2.1 + cnT (.sl K143) x.2.2.2.1) (by omega) (by omega) (show LmT (.sl K3) x.2.2.2.2.1 from hx.2.2.2.2.1) n (by omega)
  have f8 := mk86 x.2.2.2.2.2.2.2.2.1 (k + 1 + 1 + cnT (.sl K139) x.2.2.1 + cnT (.sl K143) x.2.2.2.1 + cnT (.sl K3) x.2.2.2.2.1 + 1 + 1 + 1) (by omega) (by omega) (show LmT (.sl K49) x.2.2.2.2.2.2.2.2.1 from hx.2.2.2.2.2.2.2.2.1) n (by omega)
  have f9 := mk23 x.2.2.2.2.2.2.2.2.2.1 (k + 1 + 1 + cnT (.sl K139) x.2.2.1 + cnT (.sl K143) x.2.2.2.1 + cnT (.sl K3) x.2.2.2.2.1 + 1 + 1 + 1 + cnT (.sl K49) x.2.2.2.2.2.2.2.2.1) (by omega) (by omega) (show LmT (.sl K3) x.2.2.2.2.2.2.2.2.2.1 from hx.2.2.2.2.2.2.2.2.2.1) n (by omega)
  have f10 := mk23 x.2.2.2.2.2.2.2.2.2.2.1 (k + 1 + 1 + cnT (.sl K139) x.2.2.1 + cnT (.sl K143) x.2.2.2.1 + cnT (.sl K3) x.2.2.2.2.1 + 1 + 1 + 1 + cnT (.sl K49) x.2.2.2.2.2.2.2.2.1 + cnT (.sl K3) x.2.2.2.2.2.2.2.2.2.1) (by omega) (by omega) (show LmT (.sl K3) x.2.2.2.2.2.2.2.2.2.2.1 from hx.2.2.2.2.2.2.2.2.2.2.1) n (by omega)
  have f11 := mk87 x.2.2.2.2.2.2.2.2.2.2.2.1 (k + 1 + 1 + cnT (.sl K139) x.2.2.1 + cnT (.sl K143) x.2.2.2.1 + cnT (.sl K3) x.2.2.2.2.1 + 1 + 1 + 1 + cnT (.sl K49) x.2.2.2.2.2.2.2.2.1 + cnT (.sl K3) x.2.2.2.2.2.2.2.2.2.1 + cnT (.sl K3) x.2.2.2.2.2.2.2.2.2.2.1) (by omega) (by omega) (show LmT (.sl K43) x.2.2.2.2.2.2.2.2.2.2.2.1 from hx.2.2.2.2.2.2.2.2.2.2.2.1) n (by omega)
  have f14 := mk88 x.2.2.2.2.2.2.2.2.2.2.2.2.2.2.1 (k + 1 + 1 + cnT (.sl K139) x.2.2.1 + cnT (.sl K143) x.2.2.2.1 + cnT (.sl K3) x.2.2.2.2.1 + 1 + 1 + 1 + cnT (.sl K49) x.2.2.2.2.2.2.2.2.1 + cnT (.sl K3) x.2.2.2.2.2.2.2.2.2.1 + cnT (.sl K3) x.2.2.2.2.2.2.2.2.2.2.1 + cnT (.sl K43) x.2.2.2.2.2.2.2.2.2.2.2.1 + 1 + 1) (by omega) (by omega) (show LmT (.sl K163) x.2.2.2.2.2.2.2.2.2.2.2.2.2.2.1 from hx.2.2.2.2.2.2.2.2.2.2.2.2.2.2.1) n (by omega)
  have f18 := mk89 x.2.2.2.2.2.2.2.2.2.2.2.2.2.2.2.2.2.2.1 (k + 1 + 1 + cnT (.sl K139) x.2.2.1 + cnT (.sl K143) x.2.2.2.1 + cnT (.sl K3) x.2.2.2.2.1 + 1 + 1 + 1 + cnT (.sl K49) x.2.2.2.2.2.2.2.2.1 + cnT (.sl K3) x.2.2.2.2.2.2.2.2.2.1 + cnT (.sl K3) x.2.2.2.2.2.2.2.2.2.2.1 + cnT (.sl K43) x.2.2.2.2.2.2.2.2.2.2.2.1 + 1 + 1 + cnT (.sl K163) x.2.2.2.2.2.2.2.2.2.2.2.2.2.2.1 + 1 + 1 + 1) (by omega) (by omega) (show LmT (.sl K171) x.2.2.2.2.2.2.2.2.2.2.2.2.2.2.2.2.2.2.1 from hx.2.2.2.2.2.2.2.2.2.2.2.2.2.2.2.2.2.2.1) n (by omega)
  have w0 : IntKind.i64.wrap (k + 1) = k + 1 := wrap64 (by omega) (by omega)
  have w1 : IntKind.i64.wrap (k + 1 + 1) = k + 1 + 1 := wrap64 (by omega) (by omega)
  have w5 : IntKind.i64.wrap (k + 1 + 1 + cnT (.sl K139) x.2.2.1 + cnT (.sl K143) x.2.2.2.1 + cnT (.sl K3) x.2.2.2.2.1 + 1) = k + 1 + 1 + cnT (.sl K139) x.2.2.1 + cnT (.sl K143) x.2.2.2.1 + cnT (.sl K3) x.2.2.2.2.1 + 1 := wrap64 (by omega) (by omega)
  have w6 : IntKind.i64.wrap (k + 1 + 1 + cnT (.sl K139) x.2.2.1 + cnT (.sl K143) x.2.2.2.1 + cnT (.sl K3) x.2.2.2.2.1 + 1 + 1) = k + 1 + 1 + cnT (.sl K139) x.2.2.1 + cnT (.sl K143) x.2.2.2.1 + cnT (.sl K3) x.2.2.2.2.1 + 1 + 1 := wrap64 (by omega) (by omega)
  have w7 : IntKind.i64.wrap (k + 1 + 1 + cnT (.sl K139) x.2.2.1 + cnT (.sl K143) x.2.2.2.1 + cnT (.sl K3) x.2.2.2.2.1 + 1 + 1 + 1) = k + 1 + 1 + cnT (.sl K139) x.2.2.1 + cnT (.sl K143) x.2.2.2.1 + cnT (.sl K3) x.2.2.2.2.1 + 1 + 1 + 1 := wrap64 (by omega) (by omega)
  have w12 : IntKind.i64.wrap (k + 1 + 1 + cnT (.sl K139) x.2.2.1 + cnT (.sl K143) x.2.2.2.1 + cnT (.sl K3) x.2.2.2.2.1 + 1 + 1 + 1 + cnT (.sl K49) x.2.2.2.2.2.2.2.2.1 + cnT (.sl K3) x.2.2.2.2.2.2.2.2.2.1 + cnT (.sl K3) x.2.2.2.2.2.2.2.2.2.2.1 + cnT (.sl K43) x.2.2.2.2.2.2.2.2.2.2.2.1 + 1) = k + 1 + 1 + cnT (.sl K139) x.2.2.1 + cnT (.sl K143) x.2.2.2.1 + cnT (.sl K3) x.2.2.2.2.1 + 1 + 1 + 1 + cnT (.sl K49) x.2.2.2.2.2.2.2.2.1 + cnT (.sl K3) x.2.2.2.2.2.2.2.2.2.1 + cnT (.sl K3) x.2.2.2.2.2.2.2.2.2.2.1 + cnT (.sl K43) x.2.2.2.2.2.2.2.2.2.2.2.1 + 1 := wrap64 (by omega) (by omega)
  have w13 : IntKind.i64.wrap (k + 1 + 1 + cnT (.sl K139) x.2.2.1 + cnT (.sl K143) x.2.2.2.1 + cnT (.sl K3) x.2.2.2.2.1 + 1 + 1 + 1 + cnT (.sl K49) x.2.2.2.2.2.2.2.2.1 + cnT (.sl K3) x.2.2.2.2.2.2.2.2.2.1 + cnT (.sl K3) x.2.2.2.2.2.2.2.2.2.2.1 + cnT (.sl K43) x.2.2.2.2.2.2.2.2.2.2.2.1 + 1 + 1) = k + 1 + 1 + cnT (.sl K139) x.2.2.1 + cnT (.sl K143) x.2.2.2.1 + cnT (.sl K3) x.2.2.2.2.1 + 1 + 1 + 1 + cnT (.sl K49) x.2.2.2.2.2.2.2.2.1 + cnT (.sl K3) x.2.2.2.2.2.2.2.2.2.1 + cnT (.sl K3) x.2.2.2.2.2.2.2.2.2.2.1 + cnT (.sl K43) x.2.2.2.2.2.2.2.2.2.2.2.1 + 1 + 1 := wrap64 (by omega) (by omega)
  have w15 : IntKind.i64.wrap (k + 1 + 1 + cnT (.sl K139) x.2.2.1 + cnT (.sl K143) x.2.2.2.1 + cnT (.sl K3) x.2.2.2.2.1 + 1 + 1 + 1 + cnT (.sl K49) x.2.2.2.2.2.2.2.2.1 + cnT (.sl K3) x.2.2.2.2.2.2.2.2.2.1 + cnT (.sl K3) x.2.2.2.2.2.2.2.2.2.2.1 + cnT (.sl K43) x.2.2.2.2.2.2.2.2.2.2.2.1 + 1 + 1 + cnT (.sl K163) x.2.2.2.2.2.2.2.2.2.2.2.2.2.2.1 + 1) = k + 1 + 1 + cnT (.sl K139) x.2.2.1 + cnT (.sl K143) x.2.2.2.1 + cnT (.sl K3) x.2.2.2.2.1 + 1 + 1 + 1 + cnT (.sl K49) x.2.2.2.2.2.2.2.2.1 + cnT (.sl K3) x.2.2.2.2.2.2.2.2.2.1 + cnT (.sl K3) x.2.2.2.2.2.2.2.2.2.2.1 + cnT (.sl K43) x.2.2.2.2.2.2.2.2.2.2.2.1 + 1 + 1 + cnT (.sl K163) x.2.2.2.2.2.2.2.2.2.2.2.2.2.2.1 + 1 := wrap64 (by omega) (by omega)
  have w16 : IntKind.i64.wrap (k + 1 + 1 + cnT (.sl K139) x.2.2.1 + cnT (.sl K143) x.2.2.2.1 + cnT (.sl K3) x.2.2.2.2.1 + 1 + 1 + 1 + cnT (.sl K49) x.2.2.2.2.2.2.2.2.1 + cnT (.sl K3) x.2.2.2.2.2.2.2.2.2.1 + cnT (.sl K3) x.2.2.2.2.2.2.2.2.2.2.1 + cnT (.sl K43) x.2.2.2.2.2.2.2.2.2.2.2.1 + 1 + 1 + cnT (.sl K163) x.2.2.2.2.2.2.2.2.2.2.2.2.2.2.1 + 1 + 1) = k + 1 + 1 + cnT (.sl K139) x.2.2.1 + cnT (.sl K143) x.2.2.2.1 + cnT (.sl K3) x.2.2.2.2.1 + 1 + 1 + 1 + cnT (.sl K49) x.2.2.2.2.2.2.2.2.1 + cnT (.sl K3) x.2.2.2.2.2.2.2.2.2.1 + cnT (.sl K3) x.2.2.2.2.2.2.2.2.2.2.1 + cnT (.sl K43) x.2.2.2.2.2.2.2.2.2.2.2.1 + 1 + 1 + cnT (.sl K163) x.2.2.2.2.2.2.2.2.2.2.2.2.2.2.1 + 1 + 1 := wrap64 (by omega) (by omega)
  have w17 : IntKind.i64.wrap (k + 1 + 1 + cnT (.sl K139) x.2.2.1 + cnT (.sl K143) x.2.2.2.1 + cnT (.sl K3) x.2.2.2.2.1 + 1 + 1 + 1 + cnT (.sl K49) x.2.2.2.2.2.2.2.2.1 + cnT (.sl K3) x.2.2.2.2.2.2.2.2.2.1 + cnT (.sl K3) x.2.2.2.2.2.2.2.2.2.2.1 + cnT (.sl K43) x.2.2.2.2.2.2.2.2.2.2.2.1 + 1 + 1 + cnT (.sl K163) x.2.2.2.2.2.2.2.2.2.2.2.2.2.2.1 + 1 + 1 + 1) = k + 1 + 1 + cnT (.sl K139) x.2.2.1 + cnT (.sl K143) x.2.2.2.1 + cnT (.sl K3) x.2.2.2.2.1 + 1 + 1 + 1 + cnT (.sl K49) x.2.2.2.2.2.2.2.2.1 + cnT (.sl K3) x.2.2.2.2.2.2.2.2.2.1 + cnT (.sl K3) x.2.2.2.2.2.2.2.2.2.2.1 + cnT (.sl K43) x.2.2.2.2.2.2.2.2.2.2.2.1 + 1 + 1 + cnT (.sl K163) x.2.2.2.2.2.2.2.2.2.2.2.2.2.2.1 + 1 + 1 + 1 := wrap64 (by omega) (by omega)
  have hy2 : i < ys.length := by rw [hy]; exact hi
  show c42_2 (arun p n) fuel rec (k, ((i : Int), ys)) = rec (k + (1 + (1 + (cnT (.sl K139) x.2.2.1 + (cnT (.sl K143) x.2.2.2.1 + (cnT (.sl K3) x.2.2.2.2.1 + (1 + (1 + (1 + (cnT (.sl K49) x.2.2.2.2.2.2.2.2.1 + (cnT (.sl K3) x.2.2.2.2.2.2.2.2.2.1 + (cnT (.sl K3) x.2.2.2.2.2.2.2.2.2.2.1 + (cnT (.sl K43) x.2.2.2.2.2.2.2.2.2.2.2.1 + (1 + (1 + (cnT (.sl K163) x.2.2.2.2.2.2.2.2.2.2.2.2.2.2.1 + (1 + (1 + (1 + (cnT (.sl K171) x.2.2.2.2.2.2.2.2.2.2.2.2.2.2.2.2.2.2.1 + 0))))))))))))))))))), (((i + 1 : Nat) : Int), ys.set i (k, k + 1, mkT txt (.sl K139) x.2.2.1 (k + 1 + 1), mkT txt (.sl K143) x.2.2.2.1 (k + 1 + 1 + cnT (.sl K139) x.2.2.1), mkT txt (.sl K3) x.2.2.2.2.1 (k + 1 + 1 + cnT (.sl K139) x.2.2.1 + cnT (.sl K143) x.2.2.2.1), k + 1 + 1 + cnT (.sl K139) x.2.2.1 + cnT (.sl K143) x.2.2.2.1 + cnT (.sl K3) x.2.2.2.2.1, k + 1 + 1 + cnT (.sl K139) x.2.2.1 + cnT (.sl K143) x.2.2.2.1 + cnT (.sl K3) x.2.2.2.2.1 + 1, k + 1 + 1 + cnT (.sl K139) x.2.2.1 + cnT (.sl K143) x.2.2.2.1 + cnT (.sl K3) x.2.2.2.2.1 + 1 + 1, mkT txt (.sl K49) x.2.2.2.2.2.2.2.2.1 (k + 1 + 1 + cnT (.sl K139) x.2.2.1 + cnT (.sl K143) x.2.2.2.1 + cnT (.sl K3) x.2.2.2.2.1 + 1 + 1 + 1), mkT txt (.sl K3) x.2.2.2.2.2.2.2.2.2.1 (k + 1 + 1 + cnT (.sl K139) x.2.2.1 + cnT (.sl K143) x.2.2.2.1 + cnT (.sl K3) x.2.2.2.2.1 + 1 + 1 + 1 + cnT (.sl K49) x.2.2.2.2.2.2.2.2.1), mkT txt (.sl K3) x.2.2.2.2.2.2.2.2.2.2.1 (k + 1 + 1 + cnT (.sl K139) x.2.2.1 + cnT (.sl K143) x.2.2.2.1 + cnT (.sl K3) x.2.2.2.2.1 + 1 + 1 + 1 + cnT (.sl K49) x.2.2.2.2.2.2.2.2.1 + cnT (.sl K3) x.2.2.2.2.2.2.2.2.2.1), mkT txt (.sl K43) x.2.2.2.2.2.2.2.2.2.2.2.1 (k + 1 + 1 + cnT (.sl K139) x.2.2.1 + cnT (.sl K143) x.2.2.2.1 + cnT (.sl K3) x.2.2.2.2.1 + 1 + 1 + 1 + cnT (.sl K49) x.2.2.2.2.2.2.2.2.1 + cnT (.sl K3) x.2.2.2.2.2.2.2.2.2.1 + cnT (.sl K3) x.2.2.2.2.2.2.2.2.2.2.1), k + 1 + 1 + cnT (.sl K139) x.2.2.1 + cnT (.sl K143) x.2.2.2.1 + cnT (.sl K3) x.2.2.2.2.1 + 1 + 1 + 1 + cnT (.sl K49) x.2.2.2.2.2.2.2.2.1 + cnT (.sl K3) x.2.2.2.2.2.2.2.2.2.1 + cnT (.sl K3) x.2.2.2.2.2.2.2.2.2.2.1 + cnT (.sl K43) x.2.2.2.2.2.2.2.2.2.2.2.1, k + 1 + 1 + cnT (.sl K139) x.2.2.1 + cnT (.sl K143) x.2.2.2.1 + cnT (.sl K3) x.2.2.2.2.1 + 1 + 1 + 1 + cnT (.sl K49) x.2.2.2.2.2.2.2.2.1 + cnT (.sl K3) x.2.2.2.2.2.2.2.2.2.1 + cnT (.sl K3) x.2.2.2.2.2.2.2.2.2.2.1 + cnT (.sl K43) x.2.2.2.2.2.2.2.2.2.2.2.1 + 1, mkT txt (.sl K163) x.2.2.2.2.2.2.2.2.2.2.2.2.2.2.1 (k + 1 + 1 + cnT (.sl K139) x.2.2.1 + cnT (.sl K143) x.2.2.2.1 + cnT (.sl K3) x.2.2.2.2.1 + 1 + 1 + 1 + cnT (.sl K49) x.2.2.2.2.2.2.2.2.1 + cnT (.sl K3) x.2.2.2.2.2.2.2.2.2.1 + cnT (.sl K3) x.2.2.2.2.2.2.2.2.2.2.1 + cnT (.sl K43) x.2.2.2.2.2.2.2.2.2.2.2.1 + 1 + 1), k + 1 + 1 + cnT (.sl K139) x.2.2.1 + cnT (.sl K143) x.2.2.2.1 + cnT (.sl K3) x.2.2.2.2.1 + 1 + 1 + 1 + cnT (.sl K49) x.2.2.2.2.2.2.2.2.1 + cnT (.sl K3) x.2.2.2.2.2.2.2.2.2.1 + cnT (.sl K3) x.2.2.2.2.2.2.2.2.2.2.1 + cnT (.sl K43) x.2.2.2.2.2.2.2.2.2.2.2.1 + 1 + 1 + cnT (.sl K163) x.2.2.2.2.2.2.2.2.2.2.2.2.2.2.1, k + 1 + 1 + cnT (.sl K139) x.2.2.1 + cnT (.sl K143) x.2.2.2.1 + cnT (.sl K3) x.2.2.2.2.1 + 1 + 1 + 1 + cnT (.sl K49) x.2.2.2.2.2.2.2.2.1 + cnT (.sl K3) x.2.2.2.2.2.2.2.2.2.1 + cnT (.sl K3) x.2.2.2.2.2.2.2.2.2.2.1 + cnT (.sl K43) x.2.2.2.2.2.2.2.2.2.2.2.1 + 1 + 1 + cnT (.sl K163) x.2.2.2.2.2.2.2.2.2.2.2.2.2.2.1 + 1, k + 1 + 1 + cnT (.sl K139) x.2.2.1 + cnT (.sl K143) x.2.2.2.1 + cnT (.sl K3) x.2.2.2.2.1 + 1 + 1 + 1 + cnT (.sl K49) x.2.2.2.2.2.2.2.2.1 + cnT (.sl K3) x.2.2.2.2.2.2.2.2.2.1 + cnT (.sl K3) x.2.2.2.2.2.2.2.2.2.2.1 + cnT (.sl K43) x.2.2.2.2.2.2.2.2.2.2.2.1 + 1 + 1 + cnT (.sl K163) x.2.2.2.2.2.2.2.2.2.2.2.2.2.2.1 + 1 + 1, mkT txt (.sl K171) x.2.2.2.2.2.2.2.2.2.2.2.2.2.2.2.2.2.2.1 (k + 1 + 1 + cnT (.sl K139) x.2.2.1 + cnT (.sl K143) x.2.2.2.1 + cnT (.sl K3) x.2.2.2.2.1 + 1 + 1 + 1 + cnT (.sl K49) x.2.2.2.2.2.2.2.2.1 + cnT (.sl K3) x.2.2.2.2.2.2.2.2.2.1 + cnT (.sl K3) x.2.2.2.2.2.2.2.2.2.2.1 + cnT (.sl K43) x.2.2.2.2.2.2.2.2.2.2.2.1 + 1 + 1 + cnT (.sl K163) x.2.2.2.2.2.2.2.2.2.2.2.2.2.2.1 + 1 + 1 + 1), ())))
  unfold c42_2; dsimp only; rw [wrap_succ hb]
  have a0 := at_set hy2 (R42_0 x k)
  have a1 := at_set hy2 (R42_1 x k)
  have a2 := at_set hy2 (R42_2 x k)
  have a3 := at_set hy2 (R42_3 x k)
  have a4 := at_set hy2 (R42_4 x k)
  have a5 := at_set hy2 (R42_5 x k)
  have a6 := at_set hy2 (R42_6 x k)
  have a7 := at_set hy2 (R42_7 x k)
  have a8 := at_set hy2 (R42_8 x k)
  have a9 := at_set hy2 (R42_9 x k)
  have a10 := at_set hy2 (R42_10 x k)
  have a11 := at_set hy2 (R42_11 x k)
  have a12 := at_set hy2 (R42_12 x k)
  have a13 := at_set hy2 (R42_13 x k)
  have a14 := at_set hy2 (R42_14 x k)
  have a15 := at_set hy2 (R42_15 x k)
  have a16 := at_set hy2 (R42_16 x k)
  have a17 := at_set hy2 (R42_17 x k)
  have a18 := at_set hy2 (R42_18 x k)
  rw [w0]
  rw [w1]
  refine (bif_pos (Int.ofNat_lt.2 hy2)).trans ?_
  refine (bif_pos (Int.natCast_nonneg _)).trans ?_
  refine (at_known ha).trans ?_
  refine (at_known ha).trans ?_
  refine (setV_to (List.set ys i (R42_0 x k)) set_one).trans ?_
  refine (bif_pos (Int.natCast_nonneg _)).trans ?_
  refine (at_known a0).trans ?_
  refine (at_known a0).trans ?_
  refine (setV_to (List.set ys i (R42_1 x k)) set_set').trans ?_
  refine (bif_pos (Int.natCast_nonneg _)).trans ?_
  refine (at_known a1).trans ?_
  refine (at_known a1).trans ?_
  refine (at_known a1).trans ?_
  refine (call_own f2 _).trans ?_
  refine (at_known a1).trans ?_
  refine (setV_to (List.set ys i (R42_2 x k)) set_set').trans ?_
  refine (bif_pos (Int.natCast_nonneg _)).trans ?_
  refine (at_known a2).trans ?_
  refine (at_known a2).trans ?_
  refine (at_known a2).trans ?_
  refine (call_own f3 _).trans ?_
  refine (at_known a2).trans ?_
  refine (setV_to (List.set ys i (R42_3 x k)) set_set').trans ?_
  refine (bif_pos (Int.natCast_nonneg _)).trans ?_
  refine (at_known a3).trans ?_
  refine (at_known a3).trans ?_
  refine (at_known a3).trans ?_
  refine (call_own f4 _).trans ?_
  rw [w5]
  rw [w6]
  rw [w7]
  refine (at_known a3).trans ?_
  refine (setV_to (List.set ys i (R42_4 x k)) set_set').trans ?_
  refine (bif_pos (Int.natCast_nonneg _)).trans ?_
  refine (at_known a4).trans ?_
  refine (at_known a4).trans ?_
  refine (setV_to (List.set ys i (R42_5 x k)) set_set').trans ?_
  refine (bif_pos (Int.natCast_nonneg _)).trans ?_
  refine (at_known a5).trans ?_
  refine (at_known a5).trans ?_
  refine (setV_to (List.set ys i (R42_6 x k)) set_set').trans ?_
  refine (bif_pos (Int.natCast_nonneg _)).trans ?_
  refine (at_known a6).trans ?_
  refine (at_known a6).trans ?_
  refine (setV_to (List.set ys i (R42_7 x k)) set_set').trans ?_
  refine (bif_pos (Int.natCast_nonneg _)).trans ?_
  refine (at_known a7).trans ?_
  refine (at_known a7).trans ?_
  refine (at_known a7).trans ?_
  refine (call_own f8 _).trans ?_
  refine (at_known a7).trans ?_
  refine (setV_to (List.set ys i (R42_8 x k)) set_set').trans ?_
  refine (bif_pos (Int.natCast_nonneg _)).trans ?_
  refine (at_known a8).trans ?_
  refine (at_known a8).trans ?_
  refine (at_known a8).trans ?_
  refine (call_own f9 _).trans ?_
  refine (at_known a8).trans ?_
  refine (setV_to (List.set ys i (R42_9 x k)) set_set').trans ?_
  refine (bif_pos (Int.natCast_nonneg _)).trans ?_
  refine (at_known a9).trans ?_
  refine (at_known a9).trans ?_
  refine (at_known a9).trans ?_
  refine (call_own f10 _).trans ?_
  refine (at_known a9).trans ?_
  refine (setV_to (List.set ys i (R42_10 x k)) set_set').trans ?_
  refine (bif_pos (Int.natCast_nonneg _)).trans ?_
  refine (at_known a10).trans ?_
  refine (at_known a10).trans ?_
  refine (at_known a10).trans ?_
  refine (call_own f11 _).trans ?_
  rw [w12]
  rw [w13]
  refine (at_known a10).trans ?_
  refine (setV_to (List.set ys i (R42_11 x k)) set_set').trans ?_
  refine (bif_pos (Int.natCast_nonneg _)).trans ?_
  refine (at_known a11).trans ?_
  refine (at_known a11).trans ?_
  refine (setV_to (List.set ys i (R42_12 x k)) set_set').trans ?_
  refine (bif_pos (Int.natCast_nonneg _)).trans ?_
  refine (at_known a12).trans ?_
  refine (at_known a12).trans ?_
  refine (setV_to (List.set ys i (R42_13 x k)) set_set').trans ?_
  refine (bif_pos (Int.natCast_nonneg _)).trans ?_
  refine (at_known a13).trans ?_
  refine (at_known a13).trans ?_
  refine (at_known a13).trans ?_
  refine (call_own f14 _).trans ?_
  rw [w15]
  rw [w16]
  rw [w17]
  refine (at_known a13).trans ?_
  refine (setV_to (List.set ys i (R42_14 x k)) set_set').trans ?_
  refine (bif_pos (Int.natCast_nonneg _)).trans ?_
  refine (at_known a14).trans ?_
  refine (at_known a14).trans ?_
  refine (setV_to (List.set ys i (R42_15 x k)) set_set').trans ?_
  refine (bif_pos (Int.natCast_nonneg _)).trans ?_
  refine (at_known a15).trans ?_
  refine (at_known a15).trans ?_
  refine (setV_to (List.set ys i (R42_16 x k)) set_set').trans ?_
  refine (bif_pos (Int.natCast_nonneg _)).trans ?_
  refine (at_known a16).trans ?_
  refine (at_known a16).trans ?_
  refine (setV_to (List.set ys i (R42_17 x k)) set_set').trans ?_
  refine (bif_pos (Int.natCast_nonneg _)).trans ?_
  refine (at_known a17).trans ?_
  refine (at_known a17).trans ?_
  refine (at_known a17).trans ?_
  refine (call_own f18 _).trans ?_
  refine (at_known a17).trans ?_
  refine (setV_to (List.set ys i (R42_18 x k)) set_set').trans ?_
  have hfin : k + (1 + (1 + (cnT (.sl K139) x.2.2.1 + (cnT (.sl K143) x.2.2.2.1 + (cnT (.sl K3) x.2.2.2.2.1 + (1 + (1 + (1 + (cnT (.sl K49) x.2.2.2.2.2.2.2.2.1 + (cnT (.sl K3) x.2.2.2.2.2.2.2.2.2.1 + (cnT (.sl K3) x.2.2.2.2.2.2.2.2.2.2.1 + (cnT (.sl K43) x.2.2.2.2.2.2.2.2.2.2.2.1 + (1 + (1 + (cnT (.sl K163) x.2.2.2.2.2.2.2.2.2.2.2.2.2.2.1 + (1 + (1 + (1 + (cnT (.sl K171) x.2.2.2.2.2.2.2.2.2.2.2.2.2.2.2.2.2.2.1 + 0))))))))))))))))))) = k + 1 + 1 + cnT (.sl K139) x.2.2.1 + cnT (.sl K143) x.2.2.2.1 + cnT (.sl K3) x.2.2.2.2.1 + 1 + 1 + 1 + cnT (.sl K49) x.2.2.2.2.2.2.2.2.1 + cnT (.sl K3) x.2.2.2.2.2.2.2.2.2.1 + cnT (.sl K3) x.2.2.2.2.2.2.2.2.2.2.1 + cnT (.sl K43) x.2.2.2.2.2.2.2.2.2.2.2.1 + 1 + 1 + cnT (.sl K163) x.2.2.2.2.2.2.2.2.2.2.2.2.2.2.1 + 1 + 1 + 1 + cnT (.sl K171) x.2.2.2.2.2.2.2.2.2.2.2.2.2.2.2.2.2.2.1 := by omega
  rw [hfin]
  first | done | rfl
 ·show c42_2 (arun p n) fuel rec (k + cnT (.sl K73) a0_0, (((List.length a0_0 : Nat) : Int), mkT txt (.sl K73) a0_0 k)) = _
  have hlm : List.length (mkT txt (.sl K73) a0_0 k) = List.length a0_0 := foldMk_length _ _
  unfold c42_2; simp only [hlm, dec_end, cond_false]
theorem hd45 (a0_0 : List (Row K73)) (k : Int) (h0 : 0 ≤ k) (h1 : k + cnT (.sl K73) a0_0 ≤ 4611686018427387904) (hL : LmT (.sl K73) a0_0) : Ran p 4 45 [.val false ⟨K22, (mkT txt (.sl K73) a0_0 k, ())⟩, .val false ⟨K3, (k, ())⟩] ⟨[⟨K3, (k + cnT (.sl K73) a0_0, ())⟩], []⟩ := go45 fun n hn => by
 refine Ev.eq (fun fuel => by unfold T45; rfl) ?_
 refine It.ev (c := fun fuel (_ : Unit) => c45_2 (arun p n) fuel (mkT txt (.sl K73) a0_0 k)) (i := ()) (r := fun _ => some ⟨[⟨K3, (k + cnT (.sl K73) a0_0, ())⟩], []⟩) ?_ rfl
 have hlen : List.length a0_0 ≤ 4611686018427387904 := hL.1
 refine held_loop (mkR txt K73) (cnR K73) (cnR_nn K73) a0_0 k 4611686018427387904 h0 h1 (fun i k => (k, (i : Int))) (fun i hi q hi2 ha hk hB fuel a rec => ?_) (fun fuel a rec => ?_)
 ·have hb : i < 9223372036854775807 := by omega
  have hx := hL.2 i a0_0[i] (at_lt hi)
  generalize a0_0[i] = x at *
  have hc : cnR K73 x = (1 + (1 + (cnT (.sl K139) x.2.2.1 + (cnT (.sl K143) x.2.2.2.1 + (cnT (.sl K3) x.2.2.2.2.1 + (1 + (1 + (1 + (cnT (.sl K49) x.2.2.2.2.2.2.2.2.1 + (cnT (.sl K3) x.2.2.2.2.2.2.2.2.2.1 + (cnT (.sl K3) x.2.2.2.2.2.2.2.2.2.2.1 + (cnT (.sl K43) x.2.2.2.2.2.2.2.2.2.2.2.1 + (1 + (1 + (cnT (.sl K163) x.2.2.2.2.2.2.2.2.2.2.2.2.2.2.1 + (1 + (1 + (1 + (cnT (.sl K171) x.2.2.2.2.2.2.2.2.2.2.2.2.2.2.2.2.2.2.1 + 0))))))))))))))))))) := rfl
  have hr : mkR txt K73 x q = ((q, q + 1, mkT txt (.sl K139) x.2.2.1 (q + 1 + 1), mkT txt (.sl K143) x.2.2.2.1 (q + 1 + 1 + cnT (.sl K139) x.2.2.1), mkT txt (.sl K3) x.2.2.2.2.1 (q + 1 + 1 + cnT (.sl K139) x.2.2.1 + cnT (.sl K143) x.2.2.2.1), q + 1 + 1 + cnT (.sl K139) x.2.2.1 + cnT (.sl K143) x.2.2.2.1 + cnT (.sl K3) x.2.2.2.2.1, q + 1 + 1 + cnT (.sl K139) x.2.2.1 + cnT (.sl K143) x.2.2.2.1 + cnT (.sl K3) x.2.2.2.2.1 + 1, q + 1 + 1 + cnT (.sl K139) x.2.2.1 + cnT (.sl K143) x.2.2.2.1 + cnT (.sl K3) x.2.2.2.2.1 + 1 + 1, mkT txt (.sl K49) x.2.2.2.2.2.2.2.2.1 (q + 1 + 1 + cnT (.sl K139) x.2.2.1 + cnT (.sl K143) x.2.2.2.1 + cnT (.sl K3) x.2.2.2.2.1 + 1 + 1 + 1), mkT txt (.sl K3) x.2.2.2.2.2.2.2.2.2.1 (q + 1 + 1 + cnT (.sl K139) x.2.2.1 + cnT (.sl K143) x.2.2.2.1 + cnT (.sl K3) x.2.2.2.2.1 + 1 + 1 + 1 + cnT (.sl K49) x.2.2.2.2.2.2.2.2.1), mkT txt (.sl K3) x.2.2.2.2.2.2.2.2.2.2.1 (q + 1 + 1 + cnT (.sl K139) x.2.2.1 + cnT (.sl K143) x.2.2.2.1 + cnT (.sl K3) x.2.2.2.2.1 + 1 + 1 + 1 + cnT (.sl K49) x.2.2.2.2.2.2.2.2.1 + cnT (.sl K3) x.2.2.2.2.2.2.2.2.2.1), mkT txt (.sl K43) x.2.2.2.2.2.2.2.2.2.2.2.1 (q + 1 + 1 + cnT (.sl K139) x.2.2.1 + cnT (.sl K143) x.2.2.2.1 + cnT (.sl K3) x.2.2.2.2.1 + 1 + 1 + 1 + cnT (.sl K49) x.2.2.2.2.2.2.2.2.1 + cnT (.sl K3) x.2.2.2.2.2.2.2.2.2.1 + cnT (.sl K3) x.2.2.2.2.2.2.2.2.2.2.1), q + 1 + 1 + cnT (.sl K139) x.2.2.1 + cnT (.sl K143) x.2.2.2.1 + cnT (.sl K3) x.2.2.2.2.1 + 1 + 1 + 1 + cnT (.sl K49) x.2.2.2.2.2.2.2.2.1 + cnT (.sl K3) x.2.2.2.2.2.2.2.2.2.1 + cnT (.sl K3) x.2.2.2.2.2.2.2.2.2.2.1 + cnT (.sl K43) x.2.2.2.2.2.2.2.2.2.2.2.1, q + 1 + 1 + cnT (.sl K139) x.2.2.1 + cnT (.sl K143) x.2.2.2.1 + cnT (.sl K3) x.2.2.2.2.1 + 1 + 1 + 1 + cnT (.sl K49) x.2.2.2.2.2.2.2.2.1 + cnT (.sl K3) x.2.2.2.2.2.2.2.2.2.1 + cnT (.sl K3) x.2.2.2.2.2.2.2.2.2.2.1 + cnT (.sl K43) x.2.2.2.2.2.2.2.2.2.2.2.1 + 1, mkT txt (.sl K163) x.2.2.2.2.2.2.2.2.2.2.2.2.2.2.1 (q + 1 + 1 + cnT (.sl K139) x.2.2.1 + cnT (.sl K143) x.2.2.2.1 + cnT (.sl K3) x.2.2.2.2.1 + 1 + 1 + 1 + cnT (.sl K49) x.2.2.2.2.2.2.2.2.1 + cnT (.sl K3) x.2.2.2.2.2.2.2.2.2.1 + cnT (.sl K3) x.2.2.2.2.2.2.2.2.2.2.1 + cnT (.sl K43) x.2.2.2.2.2.2.2.2.2.2.2.1 + 1 + 1), q + 1 + 1 + cnT (.sl K139) x.2.2.1 + cnT (.sl K143) x.2.2.2.1 + cnT (.sl K3) x.2.2.2.2.1 + 1 + 1 + 1 + cnT (.sl K49) x.2.2.2.2.2.2.2.2.1 + cnT (.sl K3) x.2.2.2.2.2.2.2.2.2.1 + cnT (.sl K3) x.2.2.2.2.2.2.2.2.2.2.1 + cnT (.sl K43) x.2.2.2.2.2.2.2.2.2.2.2.1 + 1 + 1 + cnT (.sl K163) x.2.2.2.2.2.2.2.2.2.2.2.2.2.2.1, q + 1 + 1 + cnT (.sl K139) x.2.2.1 + cnT (.sl K143) x.2.2.2.1 + cnT (.sl K3) x.2.2.2.2.1 + 1 + 1 + 1 + cnT (.sl K49) x.2.2.2.2.2.2.2.2.1 + cnT (.sl K3) x.2.2.2.2.2.2.2.2.2.1 + cnT (.sl K3) x.2.2.2.2.2.2.2.2.2.2.1 + cnT (.sl K43) x.2.2.2.2.2.2.2.2.2.2.2.1 + 1 + 1 + cnT (.sl K163) x.2.2.2.2.2.2.2.2.2.2.2.2.2.2.1 + 1, q + 1 + 1 + cnT (.sl K139) x.2.2.1 + cnT (.sl K143) x.2.2.2.1 + cnT (.sl K3) x.2.2.2.2.1 + 1 + 1 + 1 + cnT (.sl K49) x.2.2.2.2.2.2.2.2.1 + cnT (.sl K3) x.2.2.2.2.2.2.2.2.2.1 + cnT (.sl K3) x.2.2.2.2.2.2.2.2.2.2.1 + cnT (.sl K43) x.2.2.2.2.2.2.2.2.2.2.2.1 + 1 + 1 + cnT (.sl K163) x.2.2.2.2.2.2.2.2.2.2.2.2.2.2.1 + 1 + 1, mkT txt (.sl K171) x.2.2.2.2.2.2.2.2.2.2.2.2.2.2.2.2.2.2.1 (q + 1 + 1 + cnT (.sl K139) x.2.2.1 + cnT (.sl K143) x.2.2.2.1 + cnT (.sl K3) x.2.2.2.2.1 + 1 + 1 + 1 + cnT (.sl K49) x.2.2.2.2.2.2.2.2.1 + cnT (.sl K3) x.2.2.2.2.2.2.2.2.2.1 + cnT (.sl K3) x.2.2.2.2.2.2.2.2.2.2.1 + cnT (.sl K43) x.2.2.2.2.2.2.2.2.2.2.2.1 + 1 + 1 + cnT (.sl K163) x.2.2.2.2.2.2.2.2.2.2.2.2.2.2.1 + 1 + 1 + 1), ()) : Row K73) := rfl
  rw [hc] at hB ⊢
  rw [hr] at ha
  have n2 := cnT_nn (.sl K139) x.2.2.1
  have n3 := cnT_nn (.sl K143) x.2.2.2.1
  have n4 := cnT_nn (.sl K3) x.2.2.2.2.1
  have n8 := cnT_nn (.sl K49) x.2.2.2.2.2.2.2.2.1
  have n9 := cnT_nn (.sl K3) x.2.2.2.2.2.2.2.2.2.1
  have n10 := cnT_nn (.sl K3) x.2.2.2.2.2.2.2.2.2.2.1
  have n11 := cnT_nn (.sl K43) x.2.2.2.2.2.2.2.2.2.2.2.1
  have n14 := cnT_nn (.sl K163) x.2.2.2.2.2.2.2.2.2.2.2.2.2.2.1
  have n18 := cnT_nn (.sl K171) x.2.2.2.2.2.2.2.2.2.2.2.2.2.2.2.2.2.2.1
  have f2 := hd68 x.2.2.1 (q + 1 + 1) (by omega) (by omega) (show LmT (.sl K139) x.2.2.1 from hx.2.2.1) n (by omega)
  have d2 : decide (q + 1 + 1 + cnT (.sl K139) x.2.2.1 < 0) = false := decide_eq_false (by omega)
  have f3 := hd69 x.2.2.2.1 (q + 1 + 1 + cnT (.sl K139) x.2.2.1) (by omega) (by omega) (show LmT (.sl K143) x.2.2.2.1 from hx.2.2.2.1) n (by omega)
  have d3 : decide (q + 1 + 1 + cnT (.sl K139) x.2.2.1 + cnT (.sl K143) x.2.2.2.1 < 0) = false := decide_eq_false (by omega)
  have f4 := hd24 x.2.2.2.2.1 (q + 1 + 1 + cnT (.sl K139) x.2.2.1 + cnT (.sl K143) x.2.2.2.1) (by omega) (by omega) (show LmT (.sl K3) x.2.2.2.2.1 from hx.2.2.2.2.1) n (by omega)
  have d4 : decide (q + 1 + 1 + cnT (.sl K139) x.2.2.1 + cnT (.sl K143) x.2.2.2.1 + cnT (.sl K3) x.2.2.2.2.1 < 0) = false := decide_eq_false (by omega)
  have f8 := hd91 x.2.2.2.2.2.2.2.2.1 (q + 1 + 1 + cnT (.sl K139) x.2.2.1 + cnT (.sl K143) x.2.2.2.1 + cnT (.sl K3) x.2.2.2.2.1 + 1 + 1 + 1) (by omega) (by omega) (show LmT (.sl K49) x.2.2.2.2.2.2.2.2.1 from hx.2.2.2.2.2.2.2.2.1) n (by omega)
  have d8 : decide (q + 1 + 1 + cnT (.sl K139) x.2.2.1 + cnT (.sl K143) x.2.2.2.1 + cnT (.sl K3) x.2.2.2.2.1 + 1 + 1 + 1 + cnT (.sl K49) x.2.2.2.2.2.2.2.2.1 < 0) = false := decide_eq_false (by omega)
  have f9 := hd24 x.2.2.2.2.2.2.2.2.2.1 (q + 1 + 1 + cnT (.sl K139) x.2.2.1 + cnT (.sl K143) x.2.2.2.1 + cnT (.sl K3) x.2.2.2.2.1 + 1 + 1 + 1 + cnT (.sl K49) x.2.2.2.2.2.2.2.2.1) (by omega) (by omega) (show LmT (.sl K3) x.2.2.2.2.2.2.2.2.2.1 from hx.2.2.2.2.2.2.2.2.2.1) n (by omega)
  have d9 : decide (q + 1 + 1 + cnT (.sl K139) x.2.2.1 + cnT (.sl K143) x.2.2.2.1 + cnT (.sl K3) x.2.2.2.2.1 + 1 + 1 + 1 + cnT (.sl K49) x.2.2.2.2.2.2.2.2.1 + cnT (.sl K3) x.2.2.2.2.2.2.2.2.2.1 < 0) = false := decide_eq_false (by omega)
  have f10 := hd24 x.2.2.2.2.2.2.2.2.2.2.1 (q + 1 + 1 + cnT (.sl K139) x.2.2.1 + cnT (.sl K143) x.2.2.2.1 + cnT (.sl K3) x.2.2.2.2.1 + 1 + 1 + 1 + cnT (.sl K49) x.2.2.2.2.2.2.2.2.1 + cnT (.sl K3) x.2.2.2.2.2.2.2.2.2.1) (by omega) (by omega) (show LmT (.sl K3) x.2.2.2.2.2.2.2.2.2.2.1 from hx.2.2.2.2.2.2.2.2.2.2.1) n (by omega)
  have d10 : decide (q + 1 + 1 + cnT (.sl K139) x.2.2.1 + cnT (.sl K143) x.2.2.2.1 + cnT (.sl K3) x.2.2.2.2.1 + 1 + 1 + 1 + cnT (.sl K49) x.2.2.2.2.2.2.2.2.1 + cnT (.sl K3) x.2.2.2.2.2.2.2.2.2.1 + cnT (.sl K3) x.2.2.2.2.2.2.2.2.2.2.1 < 0) = false := decide_eq_false (by omega)
  have f11 := hd92 x.2.2.2.2.2.2.2.2.2.2.2.1 (q + 1 + 1 + cnT (.sl K139) x.2.2.1 + cnT (.sl K143) x.2.2.2.1 + cnT (.sl K3) x.2.2.2.2.1 + 1 + 1 + 1 + cnT (.sl K49) x.2.2.2.2.2.2.2.2.1 + cnT (.sl K3) x.2.2.2.2.2.2.2.2.2.1 + cnT (.sl K3) x.2.2.2.2.2.2.2.2.2.2.1) (by omega) (by omega) (show LmT (.sl K43) x.2.2.2.2.2.2.2.2.2.2.2.1 from hx.2.2.2.2.2.2.2.2.2.2.2.1) n (by omega)
  have d11 : decide (q + 1 + 1 + cnT (.sl K139) x.2.2.1 + cnT (.sl K143) x.2.2.2.1 + cnT (.sl K3) x.2.2.2.2.1 + 1 + 1 + 1 + cnT (.sl K49) x.2.2.2.2.2.2.2.2.1 + cnT (.sl K3) x.2.2.2.2.2.2.2.2.2.1 + cnT (.sl K3) x.2.2.2.2.2.2.2.2.2.2.1 + cnT (.sl K43) x.2.2.2.2.2.2.2.2.2.2.2.1 < 0) = false := decide_eq_false (by omega)
  have f14 := hd93 x.2.2.2.2.2.2.2.2.2.2.2.2.2.2.1 (q + 1 + 1 + cnT (.sl K139) x.2.2.1 + cnT (.sl K143) x.2.2.2.1 + cnT (.sl K3) x.2.2.2.2.1 + 1 + 1 + 1 + cnT (.sl K49) x.2.2.2.2.2.2.2.2.1 + cnT (.sl K3) x.2.2.2.2.2.2.2.2.2.1 + cnT (.sl K3) x.2.2.2.2.2.2.2.2.2.2.1 + cnT (.sl K43) x.2.2.2.2.2.2.2.2.2.2.2.1 + 1 + 1) (by omega) (by omega) (show LmT (.sl K163) x.2.2.2.2.2.2.2.2.2.2.2.2.2.2.1 from hx.2.2.2.2.2.2.2.2.2.2.2.2.2.2.1) n (by omega)
  have d14 : decide (q + 1 + 1 + cnT (.sl K139) x.2.2.1 + cnT (.sl K143) x.2.2.2.1 + cnT (.sl K3) x.2.2.2.2.1 + 1 + 1 + 1 + cnT (.sl K49) x.2.2.2.2.2.2.2.2.1 + cnT (.sl K3) x.2.2.2.2.2.2.2.2.2.1 + cnT (.sl K3) x.2.2.2.2.2.2.2.2.2.2.1 + cnT (.sl K43) x.2.2.2.2.2.2.2.2.2.2.2.1 + 1 + 1 + cnT (.sl K163) x.2.2.2.2.2.2.2.2.2.2.2.2.2.2.1 < 0) = false := decide_eq_false (by omega)
  have f18 := hd94 x.2.2.2.2.2.2.2.2.2.2.2.2.2.2.2.2.2.2.1 (q + 1 + 1 + cnT (.sl K139) x.2.2.1 + cnT (.sl K143) x.2.2.2.1 + cnT (.sl K3) x.2.2.2.2.1 + 1 + 1 + 1 + cnT (.sl K49) x.2.2.2.2.2.2.2.2.1 + cnT (.sl K3) x.2.2.2.2.2.2.2.2.2.1 + cnT (.sl K3) x.2.2.2.2.2.2.2.2.2.2.1 + cnT (.sl K43) x.2.2.2.2.2.2.2.2.2.2.2.1 + 1 + 1 + cnT (.sl K163) x.2.2.2.2.2.2.2.2.2.2.2.2.2.2.1 + 1 + 1 + 1) (by omega) (by omega) (show LmT (.sl K171) x.2.2.2.2.2.2.2.2.2.2.2.2.2.2.2.2.2.2.1 from hx.2.2.2.2.2.2.2.2.2.2.2.2.2.2.2.2.2.2.1) n (by omega)
  have d18 : decide (q + 1 + 1 + cnT (.sl K139) x.2.2.1 + cnT (.sl K143) x.2.2.2.1 + cnT (.sl K3) x.2.2.2.2.1 + 1 + 1 + 1 + cnT (.sl K49) x.2.2.2.2.2.2.2.2.1 + cnT (.sl K3) x.2.2.2.2.2.2.2.2.2.1 + cnT (.sl K3) x.2.2.2.2.2.2.2.2.2.2.1 + cnT (.sl K43) x.2.2.2.2.2.2.2.2.2.2.2.1 + 1 + 1 + cnT (.sl K163) x.2.2.2.2.2.2.2.2.2.2.2.2.2.2.1 + 1 + 1 + 1 + cnT (.sl K171) x.2.2.2.2.2.2.2.2.2.2.2.2.2.2.2.2.2.2.1 < 0) = false := decide_eq_false (by omega)
  have w0 : IntKind.i64.wrap (q + 1) = q + 1 := wrap64 (by omega) (by omega)
  have w1 : IntKind.i64.wrap (q + 1 + 1) = q + 1 + 1 := wrap64 (by omega) (by omega)
  have w5 : IntKind.i64.wrap (q + 1 + 1 + cnT (.sl K139) x.2.2.1 + cnT (.sl K143) x.2.2.2.1 + cnT (.sl K3) x.2.2.2.2.1 + 1) = q + 1 + 1 + cnT (.sl K139) x.2.2.1 + cnT (.sl K143) x.2.2.2.1 + cnT (.sl K3) x.2.2.2.2.1 + 1 := wrap64 (by omega) (by omega)
  have w6 : IntKind.i64.wrap (q + 1 + 1 + cnT (.sl K139) x.2.2.1 + cnT (.sl K143) x.2.2.2.1 + cnT (.sl K3) x.2.2.2.2.1 + 1 + 1) = q + 1 + 1 + cnT (.sl K139) x.2.2.1 + cnT (.sl K143) x.2.2.2.1 + cnT (.sl K3) x.2.2.2.2.1 + 1 + 1 := wrap64 (by omega) (by omega)
  have w7 : IntKind.i64.wrap (q + 1 + 1 + cnT (.sl K139) x.2.2.1 + cnT (.sl K143) x.2.2.2.1 + cnT (.sl K3) x.2.2.2.2.1 + 1 + 1 + 1) = q + 1 + 1 + cnT (.sl K139) x.2.2.1 + cnT (.sl K143) x.2.2.2.1 + cnT (.sl K3) x.2.2.2.2.1 + 1 + 1 + 1 := wrap64 (by omega) (by omega)
  have w12 : IntKind.i64.wrap (q + 1 + 1 + cnT (.sl K139) x.2.2.1 + cnT (.sl K143) x.2.2.2.1 + cnT (.sl K3) x.2.2.2.2.1 + 1 + 1 + 1 + cnT (.sl K49) x.2.2.2.2.2.2.2.2.1 + cnT (.sl K3) x.2.2.2.2.2.2.2.2.2.1 + cnT (.sl K3) x.2.2.2.2.2.2.2.2.2.2.1 + cnT (.sl K43) x.2.2.2.2.2.2.2.2.2.2.2.1 + 1) = q + 1 + 1 + cnT (.sl K139) x.2.2.1 + cnT (.sl K143) x.2.2.2.1 + cnT (.sl K3) x.2.2.2.2.1 + 1 + 1 + 1 + cnT (.sl K49) x.2.2.2.2.2.2.2.2.1 + cnT (.sl K3) x.2.2.2.2.2.2.2.2.2.1 + cnT (.sl K3) x.2.2.2.2.2.2.2.2.2.2.1 + cnT (.sl K43) x.2.2.2.2.2.2.2.2.2.2.2.1 + 1 := wrap64 (by omega) (by omega)
  have w13 : IntKind.i64.wrap (q + 1 + 1 + cnT (.sl K139) x.2.2.1 + cnT (.sl K143) x.2.2.2.1 + cnT (.sl K3) x.2.2.2.2.1 + 1 + 1 + 1 + cnT (.sl K49) x.2.2.2.2.2.2.2.2.1 + cnT (.sl K3) x.2.2.2.2.2.2.2.2.2.1 + cnT (.sl K3) x.2.2.2.2.2.2.2.2.2.2.1 + cnT (.sl K43) x.2.2.2.2.2.2.2.2.2.2.2.1 + 1 + 1) = q + 1 + 1 + cnT (.sl K139) x.2.2.1 + cnT (.sl K143) x.2.2.2.1 + cnT (.sl K3) x.2.2.2.2.1 + 1 + 1 + 1 + cnT (.sl K49) x.2.2.2.2.2.2.2.2.1 + cnT (.sl K3) x.2.2.2.2.2.2.2.2.2.1 + cnT (.sl K3) x.2.2.2.2.2.2.2.2.2.2.1 + cnT (.sl K43) x.2.2.2.2.2.2.2.2.2.2.2.1 + 1 + 1 := wrap64 (by omega) (by omega)
  have w15 : IntKind.i64.wrap (q + 1 + 1 + cnT (.sl K139) x.2.2.1 + cnT (.sl K143) x.2.2.2.1 + cnT (.sl K3) x.2.2.2.2.1 + 1 + 1 + 1 + cnT (.sl K49) x.2.2.2.2.2.2.2.2.1 + cnT (.sl K3) x.2.2.2.2.2.2.2.2.2.1 + cnT (.sl K3) x.2.2.2.2.2.2.2.2.2.2.1 + cnT (.sl K43) x.2.2.2.2.2.2.2.2.2.2.2.1 + 1 + 1 + cnT (.sl K163) x.2.2.2.2.2.2.2.2.2.2.2.2.2.2.1 + 1) = q + 1 + 1 + cnT (.sl K139) x.2.2.1 + cnT (.sl K143) x.2.2.2.1 + cnT (.sl K3) x.2.2.2.2.1 + 1 + 1 + 1 + cnT (.sl K49) x.2.2.2.2.2.2.2.2.1 + cnT (.sl K3) x.2.2.2.2.2.2.2.2.2.1 + cnT (.sl K3) x.2.2.2.2.2.2.2.2.2.2.1 + cnT (.sl K43) x.2.2.2.2.2.2.2.2.2.2.2.1 + 1 + 1 + cnT (.sl K163) x.2.2.2.2.2.2.2.2.2.2.2.2.2.2.1 + 1 := wrap64 (by omega) (by omega)
  have w16 : IntKind.i64.wrap (q + 1 + 1 + cnT (.sl K139) x.2.2.1 + cnT (.sl K143) x.2.2.2.1 + cnT (.sl K3) x.2.2.2.2.1 + 1 + 1 + 1 + cnT (.sl K49) x.2.2.2.2.2.2.2.2.1 + cnT (.sl K3) x.2.2.2.2.2.2.2.2.2.1 + cnT (.sl K3) x.2.2.2.2.2.2.2.2.2.2.1 + cnT (.sl K43) x.2.2.2.2.2.2.2.2.2.2.2.1 + 1 + 1 + cnT (.sl K163) x.2.2.2.2.2.2.2.2.2.2.2.2.2.2.1 + 1 + 1) = q + 1 + 1 + cnT (.sl K139) x.2.2.1 + cnT (.sl K143) x.2.2.2.1 + cnT (.sl K3) x.2.2.2.2.1 + 1 + 1 + 1 + cnT (.sl K49) x.2.2.2.2.2.2.2.2.1 + cnT (.sl K3) x.2.2.2.2.2.2.2.2.2.1 + cnT (.sl K3) x.2.2.2.2.2.2.2.2.2.2.1 + cnT (.sl K43) x.2.2.2.2.2.2.2.2.2.2.2.1 + 1 + 1 + cnT (.sl K163) x.2.2.2.2.2.2.2.2.2.2.2.2.2.2.1 + 1 + 1 := wrap64 (by omega) (by omega)
  have w17 : IntKind.i64.wrap (q + 1 + 1 + cnT (.sl K139) x.2.2.1 + cnT (.sl K143) x.2.2.2.1 + cnT (.sl K3) x.2.2.2.2.1 + 1 + 1 + 1 + cnT (.sl K49) x.2.2.2.2.2.2.2.2.1 + cnT (.sl K3) x.2.2.2.2.2.2.2.2.2.1 + cnT (.sl K3) x.2.2.2.2.2.2.2.2.2.2.1 + cnT (.sl K43) x.2.2.2.2.2.2.2.2.2.2.2.1 + 1 + 1 + cnT (.sl K163) x.2.2.2.2.2.2.2.2.2.2.2.2.2.2.1 + 1 + 1 + 1) = q + 1 + 1 + cnT (.sl K139) x.2.2.1 + cnT (.sl K143) x.2.2.2.1 + cnT (.sl K3) x.2.2.2.2.1 + 1 + 1 + 1 + cnT (.sl K49) x.2.2.2.2.2.2.2.2.1 + cnT (.sl K3) x.2.2.2.2.2.2.2.2.2.1 + cnT (.sl K3) x.2.2.2.2.2.2.2.2.2.2.1 + cnT (.sl K43) x.2.2.2.2.2.2.2.2.2.2.2.1 + 1 + 1 + cnT (.sl K163) x.2.2.2.2.2.2.2.2.2.2.2.2.2.2.1 + 1 + 1 + 1 := wrap64 (by omega) (by omega)
  show c45_2 (arun p n) fuel (mkT txt (.sl K73) a0_0 k) rec (q, (i : Int)) = rec (q + (1 + (1 + (cnT (.sl K139) x.2.2.1 + (cnT (.sl K143) x.2.2.2.1 + (cnT (.sl K3) x.2.2.2.2.1 + (1 + (1 + (1 + (cnT (.sl K49) x.2.2.2.2.2.2.2.2.1 + (cnT (.sl K3) x.2.2.2.2.2.2.2.2.2.1 + (cnT (.sl K3) x.2.2.2.2.2.2.2.2.2.2.1 + (cnT (.sl K43) x.2.2.2.2.2.2.2.2.2.2.2.1 + (1 + (1 + (cnT (.sl K163) x.2.2.2.2.2.2.2.2.2.2.2.2.2.2.1 + (1 + (1 + (1 + (cnT (.sl K171) x.2.2.2.2.2.2.2.2.2.2.2.2.2.2.2.2.2.2.1 + 0))))))))))))))))))), ((i + 1 : Nat) : Int))
  replace hi2 : i < List.length (mkT txt (.sl K73) a0_0 k) := hi2
  replace ha : at? (mkT txt (.sl K73) a0_0 k) i = some ((q, q + 1, mkT txt (.sl K139) x.2.2.1 (q + 1 + 1), mkT txt (.sl K143) x.2.2.2.1 (q + 1 + 1 + cnT (.sl K139) x.2.2.1), mkT txt (.sl K3) x.2.2.2.2.1 (q + 1 + 1 + cnT (.sl K139) x.2.2.1 + cnT (.sl K143) x.2.2.2.1), q + 1 + 1 + cnT (.sl K139) x.2.2.1 + cnT (.sl K143) x.2.2.2.1 + cnT (.sl K3) x.2.2.2.2.1, q + 1 + 1 + cnT (.sl K139) x.2.2.1 + cnT (.sl K143) x.2.2.2.1 + cnT (.sl K3) x.2.2.2.2.1 + 1, q + 1 + 1 + cnT (.sl K139) x.2.2.1 + cnT (.sl K143) x.2.2.2.1 + cnT (.sl K3) x.2.2.2.2.1 + 1 + 1, mkT txt (.sl K49) x.2.2.2.2.2.2.2.2.1 (q + 1 + 1 + cnT (.sl K139) x.2.2.1 + cnT (.sl K143) x.2.2.2.1 + cnT (.sl K3) x.2.2.2.2.1 + 1 + 1 + 1), mkT txt (.sl K3) x.2.2.2.2.2.2.2.2.2.1 (q + 1 + 1 + cnT (.sl K139) x.2.2.1 + cnT (.sl K143) x.2.2.2.1 + cnT (.sl K3) x.2.2.2.2.1 + 1 + 1 + 1 + cnT (.sl K49) x.2.2.2.2.2.2.2.2.1), mkT txt (.sl K3) x.2.2.2.2.2.2.2.2.2.2.1 (q + 1 + 1 + cnT (.sl K139) x.2.2.1 + cnT (.sl K143) x.2.2.2.1 + cnT (.sl K3) x.2.2.2.2.1 + 1 + 1 + 1 + cnT (.sl K49) x.2.2.2.2.2.2.2.2.1 + cnT (.sl K3) x.2.2.2.2.2.2.2.2.2.1), mkT txt (.sl K43) x.2.2.2.2.2.2.2.2.2.2.2.1 (q + 1 + 1 + cnT (.sl K139) x.2.2.1 + cnT (.sl K143) x.2.2.2.1 + cnT (.sl K3) x.2.2.2.2.1 + 1 + 1 + 1 + cnT (.sl K49) x.2.2.2.2.2.2.2.2.1 + cnT (.sl K3) x.2.2.2.2.2.2.2.2.2.1 + cnT (.sl K3) x.2.2.2.2.2.2.2.2.2.2.1), q + 1 + 1 + cnT (.sl K139) x.2.2.1 + cnT (.sl K143) x.2.2.2.1 + cnT (.sl K3) x.2.2.2.2.1 + 1 + 1 + 1 + cnT (.sl K49) x.2.2.2.2.2.2.2.2.1 + cnT (.sl K3) x.2.2.2.2.2.2.2.2.2.1 + cnT (.sl K3) x.2.2.2.2.2.2.2.2.2.2.1 + cnT (.sl K43) x.2.2.2.2.2.2.2.2.2.2.2.1, q + 1 + 1 + cnT (.sl K139) x.2.2.1 + cnT (.sl K143) x.2.2.2.1 + cnT (.sl K3) x.2.2.2.2.1 + 1 + 1 + 1 + cnT (.sl K49) x.2.2.2.2.2.2.2.2.1 + cnT (.sl K3) x.2.2.2.2.2.2.2.2.2.1 + cnT (.sl K3) x.2.2.2.2.2.2.2.2.2.2.1 + cnT (.sl K43) x.2.2.2.2.2.2.2.2.2.2.2.1 + 1, mkT txt (.sl K163) x.2.2.2.2.2.2.2.2.2.2.2.2.2.2.1 (q + 1 + 1 + cnT (.sl K139) x.2.2.1 + cnT (.sl K143) x.2.2.2.1 + cnT (.sl K3) x.2.2.2.2.1 + 1 + 1 + 1 + cnT (.sl K49) x.2.2.2.2.2.2.2.2.1 + cnT (.sl K3) x.2.2.2.2.2.2.2.2.2.1 + cnT (.sl K3) x.2.2.2.2.2.2.2.2.2.2.1 + cnT (.sl K43) x.2.2.2.2.2.2.2.2.2.2.2.1 + 1 + 1), q + 1 + 1 + cnT (.sl K139) x.2.2.1 + cnT (.sl K143) x.2.2.2.1 + cnT (.sl K3) x.2.2.2.2.1 + 1 + 1 + 1 + cnT (.sl K49) x.2.2.2.2.2.2.2.2.1 + cnT (.sl K3) x.2.2.2.2.2.2.2.2.2.1 + cnT (.sl K3) x.2.2.2.2.2.2.2.2.2.2.1 + cnT (.sl K43) x.2.2.2.2.2.2.2.2.2.2.2.1 + 1 + 1 + cnT (.sl K163) x.2.2.2.2.2.2.2.2.2.2.2.2.2.2.1, q + 1 + 1 + cnT (.sl K139) x.2.2.1 + cnT (.sl K143) x.2.2.2.1 + cnT (.sl K3) x.2.2.2.2.1 + 1 + 1 + 1 + cnT (.sl K49) x.2.2.2.2.2.2.2.2.1 + cnT (.sl K3) x.2.2.2.2.2.2.2.2.2.1 + cnT (.sl K3) x.2.2.2.2.2.2.2.2.2.2.1 + cnT (.sl K43) x.2.2.2.2.2.2.2.2.2.2.2.1 + 1 + 1 + cnT (.sl K163) x.2.2.2.2.2.2.2.2.2.2.2.2.2.2.1 + 1, q + 1 + 1 + cnT (.sl K139) x.2.2.1 + cnT (.sl K143) x.2.2.2.1 + cnT (.sl K3) x.2.2.2.2.1 + 1 + 1 + 1 + cnT (.sl K49) x.2.2.2.2.2.2.2.2.1 + cnT (.sl K3) x.2.2.2.2.2.2.2.2.2.1 + cnT (.sl K3) x.2.2.2.2.2.2.2.2.2.2.1 + cnT (.sl K43) x.2.2.2.2.2.2.2.2.2.2.2.1 + 1 + 1 + cnT (.sl K163) x.2.2.2.2.2.2.2.2.2.2.2.2.2.2.1 + 1 + 1, mkT txt (.sl K171) x.2.2.2.2.2.2.2.2.2.2.2.2.2.2.2.2.2.2.1 (q + 1 + 1 + cnT (.sl K139) x.2.2.1 + cnT (.sl K143) x.2.2.2.1 + cnT (.sl K3) x.2.2.2.2.1 + 1 + 1 + 1 + cnT (.sl K49) x.2.2.2.2.2.2.2.2.1 + cnT (.sl K3) x.2.2.2.2.2.2.2.2.2.1 + cnT (.sl K3) x.2.2.2.2.2.2.2.2.2.2.1 + cnT (.sl K43) x.2.2.2.2.2.2.2.2.2.2.2.1 + 1 + 1 + cnT (.sl K163) x.2.2.2.2.2.2.2.2.2.2.2.2.2.2.1 + 1 + 1 + 1), ()) : Row K73) := ha
  generalize mkT txt (.sl K73) a0_0 k = L at *
  unfold c45_2; dsimp only; rw [wrap_succ hb]
  rw [w0]
  rw [w1]
  refine (bif_pos (Int.ofNat_lt.2 hi2)).trans ?_
  refine (bif_pos (Int.natCast_nonneg _)).trans ?_
  refine (at_known ha).trans ?_
  refine (bif_ff (bne_self_eq_false _)).trans ?_
  refine (bif_pos (Int.natCast_nonneg _)).trans ?_
  refine (at_known ha).trans ?_
  refine (bif_ff (bne_self_eq_false _)).trans ?_
  refine (bif_pos (Int.natCast_nonneg _)).trans ?_
  refine (at_known ha).trans ?_
  refine (call_step' f2 _).trans ?_
  refine (bif_ff d2).trans ?_
  refine (bif_pos (Int.natCast_nonneg _)).trans ?_
  refine (at_known ha).trans ?_
  refine (call_step' f3 _).trans ?_
  refine (bif_ff d3).trans ?_
  refine (bif_pos (Int.natCast_nonneg _)).trans ?_
  refine (at_known ha).trans ?_
  refine (call_step' f4 _).trans ?_
  rw [w5]
  rw [w6]
  rw [w7]
  refine (bif_ff d4).trans ?_
  refine (bif_pos (Int.natCast_nonneg _)).trans ?_
  refine (at_known ha).trans ?_
  refine (bif_ff (bne_self_eq_false _)).trans ?_
  refine (bif_pos (Int.natCast_nonneg _)).trans ?_
  refine (at_known ha).trans ?_
  refine (bif_ff (bne_self_eq_false _)).trans ?_
  refine (bif_pos (Int.natCast_nonneg _)).trans ?_
  refine (at_known ha).trans ?_
  refine (bif_ff (bne_self_eq_false _)).trans ?_
  refine (bif_pos (Int.natCast_nonneg _)).trans ?_
  refine (at_known ha).trans ?_
  refine (call_step' f8 _).trans ?_
  refine (bif_ff d8).trans ?_
  refine (bif_pos (Int.natCast_nonneg _)).trans ?_
  refine (at_known ha).trans ?_
  refine (call_step' f9 _).trans ?_
  refine (bif_ff d9).trans ?_
  refine (bif_pos (Int.natCast_nonneg _)).trans ?_
  refine (at_known ha).trans ?_
  refine (call_step' f10 _).trans ?_
  refine (bif_ff d10).trans ?_
  refine (bif_pos (Int.natCast_nonneg _)).trans ?_
  refine (at_known ha).trans ?_
  refine (call_step' f11 _).trans ?_
  rw [w12]
  rw [w13]
  refine (bif_ff d11).trans ?_
  refine (bif_pos (Int.natCast_nonneg _)).trans ?_
  refine (at_known ha).trans ?_
  refine (bif_ff (bne_self_eq_false _)).trans ?_
  refine (bif_pos (Int.natCast_nonneg _)).trans ?_
  refine (at_known ha).trans ?_
  refine (bif_ff (bne_self_eq_false _)).trans ?_
  refine (bif_pos (Int.natCast_nonneg _)).trans ?_
  refine (at_known ha).trans ?_
  refine (call_step' f14 _).trans ?_
  rw [w15]
  rw [w16]
  rw [w17]
  refine (bif_ff d14).trans ?_
  refine (bif_pos (Int.natCast_nonneg _)).trans ?_
  refine (at_known ha).trans ?_
  refine (bif_ff (bne_self_eq_false _)).trans ?_
  refine (bif_pos (Int.natCast_nonneg _)).trans ?_
  refine (at_known ha).trans ?_
  refine (bif_ff (bne_self_eq_false _)).trans ?_
  refine (bif_pos (Int.natCast_nonneg _)).trans ?_
  refine (at_known ha).trans ?_
  refine (bif_ff (bne_self_eq_false _)).trans ?_
  refine (bif_pos (Int.natCast_nonneg _)).trans ?_
  refine (at_known ha).trans ?_
  refine (call_step' f18 _).trans ?_
  refine (bif_ff d18).trans ?_
  have hfin : q + (1 + (1 + (cnT (.sl K139) x.2.2.1 + (cnT (.sl K143) x.2.2.2.1 + (cnT (.sl K3) x.2.2.2.2.1 + (1 + (1 + (1 + (cnT (.sl K49) x.2.2.2.2.2.2.2.2.1 + (cnT (.sl K3) x.2.2.2.2.2.2.2.2.2.1 + (cnT (.sl K3) x.2.2.2.2.2.2.2.2.2.2.1 + (cnT (.sl K43) x.2.2.2.2.2.2.2.2.2.2.2.1 + (1 + (1 + (cnT (.sl K163) x.2.2.2.2.2.2.2.2.2.2.2.2.2.2.1 + (1 + (1 + (1 + (cnT (.sl K171) x.2.2.2.2.2.2.2.2.2.2.2.2.2.2.2.2.2.2.1 + 0))))))))))))))))))) = q + 1 + 1 + cnT (.sl K139) x.2.2.1 + cnT (.sl K143) x.2.2.2.1 + cnT (.sl K3) x.2.2.2.2.1 + 1 + 1 + 1 + cnT (.sl K49) x.2.2.2.2.2.2.2.2.1 + cnT (.sl K3) x.2.2.2.2.2.2.2.2.2.1 + cnT (.sl K3) x.2.2.2.2.2.2.2.2.2.2.1 + cnT (.sl K43) x.2.2.2.2.2.2.2.2.2.2.2.1 + 1 + 1 + cnT (.sl K163) x.2.2.2.2.2.2.2.2.2.2.2.2.2.2.1 + 1 + 1 + 1 + cnT (.sl K171) x.2.2.2.2.2.2.2.2.2.2.2.2.2.2.2.2.2.2.1 := by omega
  rw [hfin]
  first | done | rfl
 ·show c45_2 (arun p n) fuel (mkT txt (.sl K73) a0_0 k) rec (k + cnT (.sl K73) a0_0, ((List.length (mkT txt (.sl K73) a0_0 k) : Nat) : Int)) = _
  unfold c45_2; simp only [dec_end, cond_false]
theorem mk12 (a0 : Row K26) (k : Int) (h0 : 0 ≤ k) (h1 : k + cnS K26 a0 ≤ 4611686018427387904) (hL : LmR K26 a0) : Ran p 5 12 [.own true ⟨K26, a0⟩, .val false ⟨K3, (k, ())⟩] ⟨[⟨K3, (k + cnS K26 a0, ())⟩], [⟨K26, mkS txt K26 a0 k⟩]⟩ := go12 fun n hn => Ev.now fun fuel => by
 have hc : cnS K26 a0 = (cnT (.sl K73) a0.1 + (cnT (.sl K108) a0.2.1 + (cnT (.sl K90) a0.2.2.1 + 0))) := rfl
 rw [hc] at h1 ⊢
 have n0 := cnT_nn (.sl K73) a0.1
 have n1 := cnT_nn (.sl K108) a0.2.1
 have n2 := cnT_nn (.sl K90) a0.2.2.1
 have f0 := mk42 a0.1 (k) (by omega) (by omega) (show LmT (.sl K73) a0.1 from hL.1) n (by omega)
 have f1 := mk43 a0.2.1 (k + cnT (.sl K73) a0.1) (by omega) (by omega) (show LmT (.sl K108) a0.2.1 from hL.2.1) n (by omega)
 have f2 := mk44 a0.2.2.1 (k + cnT (.sl K73) a0.1 + cnT (.sl K108) a0.2.1) (by omega) (by omega) (show LmT (.sl K90) a0.2.2.1 from hL.2.2.1) n (by omega)
 unfold T12
 refine (call_own f0 _).trans ?_
 refine (call_own f1 _).trans ?_
 refine (call_own f2 _).trans ?_
 rw [show k + (cnT (.sl K73) a0.1 + (cnT (.sl K108) a0.2.1 + (cnT (.sl K90) a0.2.2.1 + 0))) = k + cnT (.sl K73) a0.1 + cnT (.sl K108) a0.2.1 + cnT (.sl K90) a0.2.2.1 by omega]
 first | done | rfl
theorem hd13 (a0 : Row K26) (k : Int) (h0 : 0 ≤ k) (h1 : k + cnS K26 a0 ≤ 4611686018427387904) (hL : LmR K26 a0) : Ran p 5 13 [.val true ⟨K26, mkS txt K26 a0 k⟩, .val false ⟨K3, (k, ())⟩] ⟨[⟨K3, (k + cnS K26 a0, ())⟩], []⟩ := go13 fun n hn => Ev.now fun fuel => by
 have hc : cnS K26 a0 = (cnT (.sl K73) a0.1 + (cnT (.sl K108) a0.2.1 + (cnT (.sl K90) a0.2.2.1 + 0))) := rfl
 rw [hc] at h1 ⊢
 have n0 := cnT_nn (.sl K73) a0.1
 have n1 := cnT_nn (.sl K108) a0.2.1
 have n2 := cnT_nn (.sl K90) a0.2.2.1
 have f0 := hd45 a0.1 (k) (by omega) (by omega) (show LmT (.sl K73) a0.1 from hL.1) n (by omega)
 have f1 := hd46 a0.2.1 (k + cnT (.sl K73) a0.1) (by omega) (by omega) (show LmT (.sl K108) a0.2.1 from hL.2.1) n (by omega)
 have f2 := hd47 a0.2.2.1 (k + cnT (.sl K73) a0.1 + cnT (.sl K108) a0.2.1) (by omega) (by omega) (show LmT (.sl K90) a0.2.2.1 from hL.2.2.1) n (by omega)
 unfold T13
 refine (call_step' f0 _).trans ?_
 refine (bif_neg (show ¬ (k + cnT (.sl K73) a0.1 < 0) by omega)).trans ?_
 refine (call_step' f1 _).trans ?_
 refine (bif_neg (show ¬ (k + cnT (.sl K73) a0.1 + cnT (.sl K108) a0.2.1 < 0) by omega)).trans ?_
 refine (call_step' f2 _).trans ?_
 refine (bif_neg (show ¬ (k + cnT (.sl K73) a0.1 + cnT (.sl K108) a0.2.1 + cnT (.sl K90) a0.2.2.1 < 0) by omega)).trans ?_
 rw [show k + (cnT (.sl K73) a0.1 + (cnT (.sl K108) a0.2.1 + (cnT (.sl K90) a0.2.2.1 + 0))) = k + cnT (.sl K73) a0.1 + cnT (.sl K108) a0.2.1 + cnT (.sl K90) a0.2.2.1 by omega]
 first | done | rfl
end Go.Abs.Gz
