/- What the functions of this program answer, part m. -/
import Derived.Test.YthgekoledembcaaXr0
import Derived.Test.YthgekoledembcaaW2
set_option linter.unusedVariables false
set_option linter.unusedSimpArgs false
namespace Go.Abs.Nz
open Go Go.Abs
theorem text_ex (k : Int) (h0 : 0 ≤ k) (h1 : k ≤ 9223372036854775807) : ∃ s : ByteArray, Ran p 1 35 [.val false ⟨K3, (k, ())⟩] ⟨[⟨K9, (s, ())⟩], []⟩ := by
  by_cases hk : k ≤ 0
  · exact ⟨⟨#[109, 48]⟩, go35 fun n hn => Ev.now fun fuel => by unfold T35; exact bif_pos hk⟩
  · have key : ∀ n : Nat, ∃ r : ByteArray, It (fun fuel (_ : Unit) => c35_4 (arun p n) fuel) (k, (⟨#[]⟩ : ByteArray)) (fun _ => some ⟨[⟨K9, ((r, ()) : Row K9)⟩], []⟩) := fun n => by
      refine text_loop (c := fun fuel (_ : Unit) => c35_4 (arun p n) fuel) (A := K9) (fun s => ((s, ()) : Row K9)) (fun k => bytesOf [(IntKind.u8.wrap (IntKind.i64.wrap (48 + k.tmod 10)), ())]) (fun k => rfl) ⟨#[109]⟩ rfl (fun k s hk hs fuel a rec => ?_) (fun s hs fuel a rec => ?_) 19 k ⟨#[]⟩ h0 (by omega) h1 (by decide)
      · show c35_4 (arun p n) fuel rec (k, s) = _
        unfold c35_4
        refine (bif_pos hk).trans ?_
        refine (bif_neg (by decide)).trans ?_
        refine (bif_pos hs).trans ?_
        exact bif_neg (by decide)
      · show c35_4 (arun p n) fuel rec (0, s) = _
        unfold c35_4
        refine (bif_neg (Int.lt_irrefl 0)).trans ?_
        exact bif_pos hs
    obtain ⟨r, hr⟩ := key 0
    have hr' : ∀ n, It (fun fuel (_ : Unit) => c35_4 (arun p n) fuel) (k, (⟨#[]⟩ : ByteArray)) (fun _ => some ⟨[⟨K9, ((r, ()) : Row K9)⟩], []⟩) := fun n => hr
    exact ⟨r, go35 fun n hn => by
      refine Ev.eq (g := fun fuel => iter (c35_4 (arun p n) fuel) fuel (k, (⟨#[]⟩ : ByteArray))) (fun fuel => by unfold T35; exact bif_neg hk) ?_
      exact It.ev (i := ()) (hr' n) rfl⟩
open Classical in
noncomputable def txt (k : Int) : ByteArray := if h : 0 ≤ k ∧ k ≤ 9223372036854775807 then (text_ex k h.1 h.2).choose else ⟨#[]⟩
theorem text_f (k : Int) (h0 : 0 ≤ k) (h1 : k ≤ 9223372036854775807) : Ran p 1 35 [.val false ⟨K3, (k, ())⟩] ⟨[⟨K9, (txt k, ())⟩], []⟩ := by
  have e : txt k = (text_ex k h0 h1).choose := dif_pos ⟨h0, h1⟩
  rw [e]
  exact (text_ex k h0 h1).choose_spec
noncomputable def R14_0 (x : Row K68) (k : Int) : Row K68 := (k, x.2)
noncomputable def R14_1 (x : Row K68) (k : Int) : Row K68 := (k, k + 1, x.2.2)
noncomputable def R14_2 (x : Row K68) (k : Int) : Row K68 := (k, k + 1, k + 1 + 1, x.2.2.2)
noncomputable def R14_3 (x : Row K68) (k : Int) : Row K68 := (k, k + 1, k + 1 + 1, k + 1 + 1 + 1, x.2.2.2.2)
noncomputable def R14_4 (x : Row K68) (k : Int) : Row K68 := (k, k + 1, k + 1 + 1, k + 1 + 1 + 1, k + 1 + 1 + 1 + 1, x.2.2.2.2.2)
noncomputable def R14_5 (x : Row K68) (k : Int) : Row K68 := (k, k + 1, k + 1 + 1, k + 1 + 1 + 1, k + 1 + 1 + 1 + 1, txt (k + 1 + 1 + 1 + 1 + 1), x.2.2.2.2.2.2)
theorem mk14 (a0_0 : List (Row K68)) (k : Int) (h0 : 0 ≤ k) (h1 : k + cnT (.sl K68) a0_0 ≤ 4611686018427387904) (hL : LmT (.sl K68) a0_0) : Ran p 2 14 [.own false ⟨K26, (a0_0, ())⟩, .val false ⟨K3, (k, ())⟩] ⟨[⟨K3, (k + cnT (.sl K68) a0_0, ())⟩], [⟨K26, (mkT txt (.sl K68) a0_0 k, ())⟩]⟩ := go14 fun n hn => by
  refine Ev.eq (fun fuel => by unfold T14; rfl) ?_
  refine It.ev (c := fun fuel (_ : Unit) => c14_2 (arun p n) fuel) (i := ()) (r := fun _ => some ⟨[⟨K3, (k + cnT (.sl K68) a0_0, ())⟩], [⟨K26, (mkT txt (.sl K68) a0_0 k, ())⟩]⟩) ?_ rfl
  have hlen : List.length a0_0 ≤ 4611686018427387904 := hL.1
  refine mark_loop (mkR txt K68) (cnR K68) (cnR_nn K68) a0_0 k 4611686018427387904 h0 h1 (fun i k ys => (k, ((i : Int), ys))) (fun i hi ys k hy ha hk hB fuel a rec => ?_) (fun fuel a rec => ?_)
  · have hb : i < 9223372036854775807 := by omega
    have hx := hL.2 i a0_0[i] (at_lt hi)
    generalize a0_0[i] = x at *
    have hc : cnR K68 x = (1 + (1 + (1 + (1 + (1 + (1 + 0)))))) := rfl
    have hr : mkR txt K68 x k = ((k, k + 1, k + 1 + 1, k + 1 + 1 + 1, k + 1 + 1 + 1 + 1, txt (k + 1 + 1 + 1 + 1 + 1), ()) : Row K68) := rfl
    rw [hc] at hB ⊢
    rw [hr]
    have f5 := text_f (k + 1 + 1 + 1 + 1 + 1) (by omega) (by omega) n (by omega)
    have w0 : IntKind.i64.wrap (k + 1) = k + 1 := wrap64 (by omega) (by omega)
    have w1 : IntKind.i64.wrap (k + 1 + 1) = k + 1 + 1 := wrap64 (by omega) (by omega)
    have w2 : IntKind.i64.wrap (k + 1 + 1 + 1) = k + 1 + 1 + 1 := wrap64 (by omega) (by omega)
    have w3 : IntKind.i64.wrap (k + 1 + 1 + 1 + 1) = k + 1 + 1 + 1 + 1 := wrap64 (by omega) (by omega)
    have w4 : IntKind.i64.wrap (k + 1 + 1 + 1 + 1 + 1) = k + 1 + 1 + 1 + 1 + 1 := wrap64 (by omega) (by omega)
    have w5 : IntKind.i64.wrap (k + 1 + 1 + 1 + 1 + 1 + 1) = k + 1 + 1 + 1 + 1 + 1 + 1 := wrap64 (by omega) (by omega)
    have hy2 : i < ys.length := by rw [hy]; exact hi
    show c14_2 (arun p n) fuel rec (k, ((i : Int), ys)) = rec (k + (1 + (1 + (1 + (1 + (1 + (1 + 0)))))), (((i + 1 : Nat) : Int), ys.set i (k, k + 1, k + 1 + 1, k + 1 + 1 + 1, k + 1 + 1 + 1 + 1, txt (k + 1 + 1 + 1 + 1 + 1), ())))
    unfold c14_2; dsimp only; rw [wrap_succ hb]
    have a0 := at_set hy2 (R14_0 x k)
    have a1 := at_set hy2 (R14_1 x k)
    have a2 := at_set hy2 (R14_2 x k)
    have a3 := at_set hy2 (R14_3 x k)
    have a4 := at_set hy2 (R14_4 x k)
    have a5 := at_set hy2 (R14_5 x k)
    rw [w0]
    rw [w1]
    rw [w2]
    rw [w3]
    rw [w4]
    rw [w5]
    refine (bif_pos (Int.ofNat_lt.2 hy2)).trans ?_
    refine (bif_pos (Int.natCast_nonneg _)).trans ?_
    refine (at_known ha).trans ?_
    refine (at_known ha).trans ?_
    refine (setV_to (List.set ys i (R14_0 x k)) set_one).trans ?_
    refine (bif_pos (Int.natCast_nonneg _)).trans ?_
    refine (at_known a0).trans ?_
    refine (at_known a0).trans ?_
    refine (setV_to (List.set ys i (R14_1 x k)) set_set').trans ?_
    refine (bif_pos (Int.natCast_nonneg _)).trans ?_
    refine (at_known a1).trans ?_
    refine (at_known a1).trans ?_
    refine (setV_to (List.set ys i (R14_2 x k)) set_set').trans ?_
    refine (bif_pos (Int.natCast_nonneg _)).trans ?_
    refine (at_known a2).trans ?_
    refine (at_known a2).trans ?_
    refine (setV_to (List.set ys i (R14_3 x k)) set_set').trans ?_
    refine (bif_pos (Int.natCast_nonneg _)).trans ?_
    refine (at_known a3).trans ?_
    refine (at_known a3).trans ?_
    refine (setV_to (List.set ys i (R14_4 x k)) set_set').trans ?_
    refine (call_step' f5 _).trans ?_
    refine (bif_pos (Int.natCast_nonneg _)).trans ?_
    refine (at_known a4).trans ?_
    refine (at_known a4).trans ?_
    refine (setV_to (List.set ys i (R14_5 x k)) set_set').trans ?_
    have hfin : k + (1 + (1 + (1 + (1 + (1 + (1 + 0)))))) = k + 1 + 1 + 1 + 1 + 1 + 1 := by omega
    rw [hfin]
    first | done | rfl
  · show c14_2 (arun p n) fuel rec (k + cnT (.sl K68) a0_0, (((List.length a0_0 : Nat) : Int), mkT txt (.sl K68) a0_0 k)) = _
    have hlm : List.length (mkT txt (.sl K68) a0_0 k) = List.length a0_0 := foldMk_length _ _
    unfold c14_2; simp only [hlm, dec_end, cond_false]
noncomputable def R15_0 (x : Row K48) (k : Int) : Row K48 := (k, x.2)
noncomputable def R15_1 (x : Row K48) (k : Int) : Row K48 := (k, k + 1, x.2.2)
noncomputable def R15_2 (x : Row K48) (k : Int) : Row K48 := (k, k + 1, k + 1 + 1, x.2.2.2)
noncomputable def R15_3 (x : Row K48) (k : Int) : Row K48 := (k, k + 1, k + 1 + 1, k + 1 + 1 + 1, x.2.2.2.2)
noncomputable def R15_4 (x : Row K48) (k : Int) : Row K48 := (k, k + 1, k + 1 + 1, k + 1 + 1 + 1, k + 1 + 1 + 1 + 1, x.2.2.2.2.2)
noncomputable def R15_5 (x : Row K48) (k : Int) : Row K48 := (k, k + 1, k + 1 + 1, k + 1 + 1 + 1, k + 1 + 1 + 1 + 1, k + 1 + 1 + 1 + 1 + 1, x.2.2.2.2.2.2)
noncomputable def R15_6 (x : Row K48) (k : Int) : Row K48 := (k, k + 1, k + 1 + 1, k + 1 + 1 + 1, k + 1 + 1 + 1 + 1, k + 1 + 1 + 1 + 1 + 1, txt (k + 1 + 1 + 1 + 1 + 1 + 1), x.2.2.2.2.2.2.2)
theorem mk15 (a0_0 : List (Row K48)) (k : Int) (h0 : 0 ≤ k) (h1 : k + cnT (.sl K48) a0_0 ≤ 4611686018427387904) (hL : LmT (.sl K48) a0_0) : Ran p 2 15 [.own false ⟨K29, (a0_0, ())⟩, .val false ⟨K3, (k, ())⟩] ⟨[⟨K3, (k + cnT (.sl K48) a0_0, ())⟩], [⟨K29, (mkT txt (.sl K48) a0_0 k, ())⟩]⟩ := go15 fun n hn => by
  refine Ev.eq (fun fuel => by unfold T15; rfl) ?_
  refine It.ev (c := fun fuel (_ : Unit) => c15_2 (arun p n) fuel) (i := ()) (r := fun _ => some ⟨[⟨K3, (k + cnT (.sl K48) a0_0, ())⟩], [⟨K29, (mkT txt (.sl K48) a0_0 k, ())⟩]⟩) ?_ rfl
  have hlen : List.length a0_0 ≤ 4611686018427387904 := hL.1
  refine mark_loop (mkR txt K48) (cnR K48) (cnR_nn K48) a0_0 k 4611686018427387904 h0 h1 (fun i k ys => (k, ((i : Int), ys))) (fun i hi ys k hy ha hk hB fuel a rec => ?_) (fun fuel a rec => ?_)
  · have hb : i < 9223372036854775807 := by omega
    have hx := hL.2 i a0_0[i] (at_lt hi)
    generalize a0_0[i] = x at *
    have hc : cnR K48 x = (1 + (1 + (1 + (1 + (1 + (1 + (1 + 0))))))) := rfl
    have hr : mkR txt K48 x k = ((k, k + 1, k + 1 + 1, k + 1 + 1 + 1, k + 1 + 1 + 1 + 1, k + 1 + 1 + 1 + 1 + 1, txt (k + 1 + 1 + 1 + 1 + 1 + 1), ()) : Row K48) := rfl
    rw [hc] at hB ⊢
    rw [hr]
    have f6 := text_f (k + 1 + 1 + 1 + 1 + 1 + 1) (by omega) (by omega) n (by omega)
    have w0 : IntKind.i64.wrap (k + 1) = k + 1 := wrap64 (by omega) (by omega)
    have w1 : IntKind.i64.wrap (k + 1 + 1) = k + 1 + 1 := wrap64 (by omega) (by omega)
    have w2 : IntKind.i64.wrap (k + 1 + 1 + 1) = k + 1 + 1 + 1 := wrap64 (by omega) (by omega)
    have w3 : IntKind.i64.wrap (k + 1 + 1 + 1 + 1) = k + 1 + 1 + 1 + 1 := wrap64 (by omega) (by omega)
    have w4 : IntKind.i64.wrap (k + 1 + 1 + 1 + 1 + 1) = k + 1 + 1 + 1 + 1 + 1 := wrap64 (by omega) (by omega)
    have w5 : IntKind.i64.wrap (k + 1 + 1 + 1 + 1 + 1 + 1) = k + 1 + 1 + 1 + 1 + 1 + 1 := wrap64 (by omega) (by omega)
    have w6 : IntKind.i64.wrap (k + 1 + 1 + 1 + 1 + 1 + 1 + 1) = k + 1 + 1 + 1 + 1 + 1 + 1 + 1 := wrap64 (by omega) (by omega)
    have hy2 : i < ys.length := by rw [hy]; exact hi
    show c15_2 (arun p n) fuel rec (k, ((i : Int), ys)) = rec (k + (1 + (1 + (1 + (1 + (1 + (1 + (1 + 0))))))), (((i + 1 : Nat) : Int), ys.set i (k, k + 1, k + 1 + 1, k + 1 + 1 + 1, k + 1 + 1 + 1 + 1, k + 1 + 1 + 1 + 1 + 1, txt (k + 1 + 1 + 1 + 1 + 1 + 1), ())))
    unfold c15_2; dsimp only; rw [wrap_succ hb]
    have a0 := at_set hy2 (R15_0 x k)
    have a1 := at_set hy2 (R15_1 x k)
    have a2 := at_set hy2 (R15_2 x k)
    have a3 := at_set hy2 (R15_3 x k)
    have a4 := at_set hy2 (R15_4 x k)
    have a5 := at_set hy2 (R15_5 x k)
    have a6 := at_set hy2 (R15_6 x k)
    rw [w0]
    rw [w1]
    rw [w2]
    rw [w3]
    rw [w4]
    rw [w5]
    rw [w6]
    refine (bif_pos (Int.ofNat_lt.2 hy2)).trans ?_
    refine (bif_pos (Int.natCast_nonneg _)).trans ?_
    refine (at_known ha).trans ?_
    refine (at_known ha).trans ?_
    refine (setV_to (List.set ys i (R15_0 x k)) set_one).trans ?_
    refine (bif_pos (Int.natCast_nonneg _)).trans ?_
    refine (at_known a0).trans ?_
    refine (at_known a0).trans ?_
    refine (setV_to (List.set ys i (R15_1 x k)) set_set').trans ?_
    refine (bif_pos (Int.natCast_nonneg _)).trans ?_
    refine (at_known a1).trans ?_
    refine (at_known a1).trans ?_
    refine (setV_to (List.set ys i (R15_2 x k)) set_set').trans ?_
    refine (bif_pos (Int.natCast_nonneg _)).trans ?_
    refine (at_known a2).trans ?_
    refine (at_known a2).trans ?_
    refine (setV_to (List.set ys i (R15_3 x k)) set_set').trans ?_
    refine (bif_pos (Int.natCast_nonneg _)).trans ?_
    refine (at_known a3).trans ?_
    refine (at_known a3).trans ?_
    refine (setV_to (List.set ys i (R15_4 x k)) set_set').trans ?_
    refine (bif_pos (Int.natCast_nonneg _)).trans ?_
    refine (at_known a4).trans ?_
    refine (at_known a4).trans ?_
    refine (setV_to (List.set ys i (R15_5 x k)) set_set').trans ?_
    refine (call_step' f6 _).trans ?_
    refine (bif_pos (Int.natCast_nonneg _)).trans ?_
    refine (at_known a5).trans ?_
    refine (at_known a5).trans ?_
    refine (setV_to (List.set ys i (R15_6 x k)) set_set').trans ?_
    have hfin : k + (1 + (1 + (1 + (1 + (1 + (1 + (1 + 0))))))) = k + 1 + 1 + 1 + 1 + 1 + 1 + 1 := by omega
    rw [hfin]
    first | done | rfl
  · show c15_2 (arun p n) fuel rec (k + cnT (.sl K48) a0_0, (((List.length a0_0 : Nat) : Int), mkT txt (.sl K48) a0_0 k)) = _
    have hlm : List.length (mkT txt (.sl K48) a0_0 k) = List.length a0_0 := foldMk_length _ _
    unfold c15_2; simp only [hlm, dec_end, cond_false]
theorem hd16 (a0_0 : List (Row K68)) (k : Int) (h0 : 0 ≤ k) (h1 : k + cnT (.sl K68) a0_0 ≤ 4611686018427387904) (hL : LmT (.sl K68) a0_0) : Ran p 2 16 [.val false ⟨K26, (mkT txt (.sl K68) a0_0 k, ())⟩, .val false ⟨K3, (k, ())⟩] ⟨[⟨K3, (k + cnT (.sl K68) a0_0, ())⟩], []⟩ := go16 fun n hn => by
  refine Ev.eq (fun fuel => by unfold T16; rfl) ?_
  refine It.ev (c := fun fuel (_ : Unit) => c16_2 (arun p n) fuel (mkT txt (.sl K68) a0_0 k)) (i := ()) (r := fun _ => some ⟨[⟨K3, (k + cnT (.sl K68) a0_0, ())⟩], []⟩) ?_ rfl
  have hlen : List.length a0_0 ≤ 4611686018427387904 := hL.1
  refine held_loop (mkR txt K68) (cnR K68) (cnR_nn K68) a0_0 k 4611686018427387904 h0 h1 (fun i k => (k, (i : Int))) (fun i hi q hi2 ha hk hB fuel a rec => ?_) (fun fuel a rec => ?_)
  · have hb : i < 9223372036854775807 := by omega
    have hx := hL.2 i a0_0[i] (at_lt hi)
    generalize a0_0[i] = x at *
    have hc : cnR K68 x = (1 + (1 + (1 + (1 + (1 + (1 + 0)))))) := rfl
    have hr : mkR txt K68 x q = ((q, q + 1, q + 1 + 1, q + 1 + 1 + 1, q + 1 + 1 + 1 + 1, txt (q + 1 + 1 + 1 + 1 + 1), ()) : Row K68) := rfl
    rw [hc] at hB ⊢
    rw [hr] at ha
    have f5 := text_f (q + 1 + 1 + 1 + 1 + 1) (by omega) (by omega) n (by omega)
    have w0 : IntKind.i64.wrap (q + 1) = q + 1 := wrap64 (by omega) (by omega)
    have w1 : IntKind.i64.wrap (q + 1 + 1) = q + 1 + 1 := wrap64 (by omega) (by omega)
    have w2 : IntKind.i64.wrap (q + 1 + 1 + 1) = q + 1 + 1 + 1 := wrap64 (by omega) (by omega)
    have w3 : IntKind.i64.wrap (q + 1 + 1 + 1 + 1) = q + 1 + 1 + 1 + 1 := wrap64 (by omega) (by omega)
    have w4 : IntKind.i64.wrap (q + 1 + 1 + 1 + 1 + 1) = q + 1 + 1 + 1 + 1 + 1 := wrap64 (by omega) (by omega)
    have w5 : IntKind.i64.wrap (q + 1 + 1 + 1 + 1 + 1 + 1) = q + 1 + 1 + 1 + 1 + 1 + 1 := wrap64 (by omega) (by omega)
    show c16_2 (arun p n) fuel (mkT txt (.sl K68) a0_0 k) rec (q, (i : Int)) = rec (q + (1 + (1 + (1 + (1 + (1 + (1 + 0)))))), ((i + 1 : Nat) : Int))
    replace hi2 : i < List.length (mkT txt (.sl K68) a0_0 k) := hi2
    replace ha : at? (mkT txt (.sl K68) a0_0 k) i = some ((q, q + 1, q + 1 + 1, q + 1 + 1 + 1, q + 1 + 1 + 1 + 1, txt (q + 1 + 1 + 1 + 1 + 1), ()) : Row K68) := ha
    generalize mkT txt (.sl K68) a0_0 k = L at *
    unfold c16_2; dsimp only; rw [wrap_succ hb]
    rw [w0]
    rw [w1]
    rw [w2]
    rw [w3]
    rw [w4]
    rw [w5]
    refine (bif_pos (Int.ofNat_lt.2 hi2)).trans ?_
    refine (bif_pos (Int.natCast_nonneg _)).trans ?_
    refine (at_known ha).trans ?_
    refine (bif_ff (bne_self_eq_false _)).trans ?_
    refine (bif_pos (Int.natCast_nonneg _)).trans ?_
    refine (at_known ha).trans ?_
    refine (bif_ff (bne_self_eq_false _)).trans ?_
    refine (bif_pos (Int.natCast_nonneg _)).trans ?_
    refine (at_known ha).trans ?_
    refine (bif_ff (bne_self_eq_false _)).trans ?_
    refine (bif_pos (Int.natCast_nonneg _)).trans ?_
    refine (at_known ha).trans ?_
    refine (bif_ff (bne_self_eq_false _)).trans ?_
    refine (bif_pos (Int.natCast_nonneg _)).trans ?_
    refine (at_known ha).trans ?_
    refine (bif_ff (bne_self_eq_false _)).trans ?_
    refine (bif_pos (Int.natCast_nonneg _)).trans ?_
    refine (at_known ha).trans ?_
    refine (call_step' f5 _).trans ?_
    refine (bif_ff (show (!(ByteArray.toList (txt (q + 1 + 1 + 1 + 1 + 1)) == ByteArray.toList (txt (q + 1 + 1 + 1 + 1 + 1)))) = false by rw [beq_self_eq_true]; rfl)).trans ?_
    have hfin : q + (1 + (1 + (1 + (1 + (1 + (1 + 0)))))) = q + 1 + 1 + 1 + 1 + 1 + 1 := by omega
    rw [hfin]
    first | done | rfl
  · show c16_2 (arun p n) fuel (mkT txt (.sl K68) a0_0 k) rec (k + cnT (.sl K68) a0_0, ((List.length (mkT txt (.sl K68) a0_0 k) : Nat) : Int)) = _
    unfold c16_2; simp only [dec_end, cond_false]
end Go.Abs.Nz
