/- What the functions of this program answer, part a. -/
import Derived.Test.YthgekoledembcaaXr0
import Derived.Test.YthgekoledembcaaW2
set_option linter.unusedVariables false
set_option linter.unusedSimpArgs false
namespace Go.Abs.Nz
open Go Go.Abs
theorem sz51 (a0_0 : List (Row K103)) (left : Int) (hok : ROkay K52 (a0_0, ())) (h0 : 0 ≤ left) (h1 : left ≤ 1048576) : ∃ r : Int, Ran p 1 51 [.val false ⟨K52, (a0_0, ())⟩, .val false ⟨K3, (left, ())⟩] ⟨[⟨K3, (r, ())⟩], []⟩ ∧ (0 ≤ r → r + szR K52 (a0_0, ()) ≤ left ∧ Small K52 (a0_0, ())) := by
  have hl : ((List.length a0_0 : Nat) : Int) ≤ 9223372036854775807 := by have := (rsl hok).1; exact Int.ofNat_le.2 this
  have hw : IntKind.i64.wrap (left - ((List.length a0_0 : Nat) : Int)) = left - ((List.length a0_0 : Nat) : Int) := wrap64 (by omega) (by omega)
  by_cases hn : left - ((List.length a0_0 : Nat) : Int) < 0
  · exact ⟨-1, go51 fun n hn' => Ev.now fun fuel => by unfold T51; rw [hw]; exact bif_pos hn, by omega⟩
  · refine ⟨left - ((List.length a0_0 : Nat) : Int), go51 fun n hn' => Ev.now fun fuel => by unfold T51; rw [hw]; exact bif_neg hn, fun _ => ⟨by show _ + (((List.length a0_0 : Nat) : Int) + sumI (szR K103) a0_0 + 0) ≤ left; rw [sumI_zero (c := szR K103) (fun x => rfl) a0_0]; omega, ssm (Int.ofNat_le.1 (by show _ ≤ (1048576 : Int); omega)) fun i r _ => ?_⟩⟩
    exact (smk trivial (smk trivial trivial))
theorem sz55 (a0 : Row K61) (left : Int) (hok : ROkay K61 a0) (h0 : 0 ≤ left) (h1 : left ≤ 1048576) : ∃ r : Int, Ran p 1 55 [.val true ⟨K61, a0⟩, .val false ⟨K3, (left, ())⟩] ⟨[⟨K3, (r, ())⟩], []⟩ ∧ (0 ≤ r → r + szR K61 a0 ≤ left ∧ Small K61 a0) := by
  have hl : ((ByteArray.size (vS a0.2.2.2.2.1) : Nat) : Int) ≤ 9223372036854775807 := by have := (rhd (rtl (rtl (rtl (rtl hok))))); exact Int.ofNat_le.2 this
  have hw : IntKind.i64.wrap (left - ((ByteArray.size (vS a0.2.2.2.2.1) : Nat) : Int)) = left - ((ByteArray.size (vS a0.2.2.2.2.1) : Nat) : Int) := wrap64 (by omega) (by omega)
  by_cases hn : left - ((ByteArray.size (vS a0.2.2.2.2.1) : Nat) : Int) < 0
  · exact ⟨-1, go55 fun n hn' => Ev.now fun fuel => by unfold T55; rw [hw]; exact bif_pos hn, by omega⟩
  · have hz : ByteArray.size (vS a0.2.2.2.2.1) ≤ small := Int.ofNat_le.1 (by show ((ByteArray.size (vS a0.2.2.2.2.1) : Nat) : Int) ≤ (1048576 : Int); omega)
    exact ⟨left - ((ByteArray.size (vS a0.2.2.2.2.1) : Nat) : Int), go55 fun n hn' => Ev.now fun fuel => by unfold T55; rw [hw]; exact bif_neg hn, fun _ => ⟨by show _ + (0 + (0 + (0 + (0 + (((ByteArray.size (vS a0.2.2.2.2.1) : Nat) : Int) + 0))))) ≤ left; omega, (smk trivial (smk trivial (smk trivial (smk trivial (smk hz trivial)))))⟩⟩
theorem to56 (a0 : Row K61) (hs : Small K61 a0) : Ran p 1 56 [.val true ⟨K61, a0⟩] ⟨[⟨K46, a0⟩], []⟩ := go56 fun n hn => Ev.now fun fuel => by
  unfold T56; exact  rfl
theorem eq57 (a0 : Row K46) (hs : LmR K46 a0) : Ran p 1 57 [.val true ⟨K46, a0⟩, .val true ⟨K46, a0⟩] ⟨[⟨K4, (true, ())⟩], []⟩ := go57 fun n hn => Ev.now fun fuel => by
  unfold T57; simp only [bne_self_eq_false, beq_self_eq_true, beqB_self, Bool.not_true, cond_false, cond_true]
theorem to70 (a0 : Row K103) (hs : Small K103 a0) : Ran p 1 70 [.val true ⟨K103, a0⟩] ⟨[⟨K80, a0⟩], []⟩ := go70 fun n hn => Ev.now fun fuel => by
  unfold T70; exact  rfl
theorem eq71 (a0 : Row K80) (hs : LmR K80 a0) : Ran p 1 71 [.val true ⟨K80, a0⟩, .val true ⟨K80, a0⟩] ⟨[⟨K4, (true, ())⟩], []⟩ := go71 fun n hn => Ev.now fun fuel => by
  unfold T71; simp only [bne_self_eq_false, beq_self_eq_true, beqB_self, Bool.not_true, cond_false, cond_true]
theorem sz29 (a0 : Row K63) (left : Int) (hok : ROkay K63 a0) (h0 : 0 ≤ left) (h1 : left ≤ 1048576) : ∃ r : Int, Ran p 2 29 [.val true ⟨K63, a0⟩, .val false ⟨K3, (left, ())⟩] ⟨[⟨K3, (r, ())⟩], []⟩ ∧ (0 ≤ r → r + szR K63 a0 ≤ left ∧ Small K63 a0) := by
  obtain ⟨r0, f0, g0⟩ := sz55 a0.2 left (rtl hok) (by omega) (by omega)
  by_cases n0 : r0 < 0
  · exact ⟨-1, go29 fun n hn => Ev.now fun fuel => by unfold T29; exact (call_step (f0 n (by omega))).trans <| (bif_pos n0), by omega⟩
  have l0 := (g0 (by omega)).1
  replace l0 : r0 + (0 + (0 + (0 + (0 + (((ByteArray.size (vS a0.2.2.2.2.2.1) : Nat) : Int) + 0))))) ≤ left := l0
  have z0 : 0 ≤ szR K61 a0.2 := szR_nn _ _
  replace z0 : 0 ≤ (0 + (0 + (0 + (0 + (((ByteArray.size (vS a0.2.2.2.2.2.1) : Nat) : Int) + 0))))) := z0
  have s1 := shd (g0 (by omega)).2
  have s2 := shd (stl (g0 (by omega)).2)
  have s3 := shd (stl (stl (g0 (by omega)).2))
  have s4 := shd (stl (stl (stl (g0 (by omega)).2)))
  have s5 := shd (stl (stl (stl (stl (g0 (by omega)).2))))
  exact ⟨r0, go29 fun n hn => Ev.now fun fuel => by unfold T29; exact (call_step (f0 n (by omega))).trans <| (bif_neg n0).trans <|  rfl, fun _ => ⟨by show _ + (0 + (0 + (0 + (0 + (0 + (((ByteArray.size (vS a0.2.2.2.2.2.1) : Nat) : Int) + 0)))))) ≤ _; omega, (smk trivial (smk s1 (smk s2 (smk s3 (smk s4 (smk s5 trivial))))))⟩⟩
theorem to31 (a0 : Row K63) (hs : Small K63 a0) : Ran p 2 31 [.val true ⟨K63, a0⟩] ⟨[⟨K68, a0⟩], []⟩ := go31 fun n hn => Ev.now fun fuel => by
  unfold T31; exact (call_step (to56 a0.2 (stl hs) n (by omega))).trans <|  rfl
theorem eq33 (a0 : Row K68) (hs : LmR K68 a0) : Ran p 2 33 [.val true ⟨K68, a0⟩, .val true ⟨K68, a0⟩] ⟨[⟨K4, (true, ())⟩], []⟩ := go33 fun n hn => Ev.now fun fuel => by
  have f0 := eq57 a0.2 (ltl hs) n (by omega)
  unfold T33; simp only [call_step' f0, bne_self_eq_false, beq_self_eq_true, beqB_self, Bool.not_true, cond_false, cond_true]
theorem eq34 (a0 : Row K48) (hs : LmR K48 a0) : Ran p 2 34 [.val true ⟨K48, a0⟩, .val true ⟨K48, a0⟩] ⟨[⟨K4, (true, ())⟩], []⟩ := go34 fun n hn => Ev.now fun fuel => by
  have f0 := eq57 a0.2.2 (ltl (ltl hs)) n (by omega)
  unfold T34; simp only [call_step' f0, bne_self_eq_false, beq_self_eq_true, beqB_self, Bool.not_true, cond_false, cond_true]
theorem to52 (a0_0 : List (Row K103)) (hs : Small K52 (a0_0, ())) : Ran p 2 52 [.val false ⟨K52, (a0_0, ())⟩] ⟨[⟨K38, (a0_0, ())⟩], []⟩ := go52 fun n hn => by
  have hl : List.length a0_0 ≤ 1048576 := (ssl hs).1
  refine Ev.eq (fun fuel => by unfold T52; exact bif_and3 (Int.natCast_nonneg _) (Int.ofNat_le.2 (Nat.le_trans hl (by decide))) rfl) ?_
  refine It.ev (c := fun fuel (_ : Unit) => c52_3 (arun p n) fuel a0_0) (i := ()) (r := fun _ => some ⟨[⟨K38, (a0_0, ())⟩], []⟩) ?_ rfl
  refine to_loop (α := Row K80) a0_0 (zeroRow K80) (fun i ys => ((i : Int), ys)) (fun i hi ys hy fuel a rec => ?_) (fun fuel a rec => ?_)
  · have hy' : i < ys.length := by rw [hy]; exact hi
    have hi1 : i < List.length (α := Row K103) a0_0 := hi
    have hb : i < 9223372036854775807 := Nat.lt_of_lt_of_le hi (Nat.le_trans hl (by decide))
    have f := to70 a0_0[i] ((ssl hs).2 i a0_0[i] (at_lt hi)) n (by omega)
    show c52_3 (arun p n) fuel a0_0 rec ((i : Int), ys) = _; unfold c52_3; simp only [dec_lt hi1, dec_nn, Int.toNat_natCast, at_lt hi1, at_lt hy', Option.bind_some, cond_true, call_step' f, wrap_succ hb] <;> rfl
  · show c52_3 (arun p n) fuel a0_0 rec (((List.length a0_0 : Nat) : Int), a0_0) = _; unfold c52_3; simp only [dec_end, cond_false] <;> rfl
theorem eq53 (a0_0 : List (Row K80)) (hs : LmR K38 (a0_0, ())) : Ran p 2 53 [.val false ⟨K38, (a0_0, ())⟩, .val false ⟨K38, (a0_0, ())⟩] ⟨[⟨K4, (true, ())⟩], []⟩ := go53 fun n hn => by
  have hl : List.length a0_0 ≤ 4611686018427387904 := (lsl hs).1
  refine Ev.eq (fun fuel => by unfold T53; simp only [bne_self_eq_false, cond_false]; rfl) ?_
  refine It.ev (c := fun fuel (_ : Unit) => c53_4 (arun p n) fuel a0_0 a0_0) (i := ()) (r := fun _ => some ⟨[⟨K4, (true, ())⟩], []⟩) ?_ rfl
  refine eq_loop a0_0.length (fun i => (i : Int)) (fun i hi fuel a rec => ?_) (fun fuel a rec => ?_)
  · have f := eq71 a0_0[i] ((lsl hs).2 i a0_0[i] (at_lt hi)) n (by omega)
    show c53_4 (arun p n) fuel a0_0 a0_0 rec (i : Int) = _; unfold c53_4; simp only [dec_lt hi, dec_nn, Int.toNat_natCast, at_lt hi, Option.bind_some, cond_true, cond_false, bne_self_eq_false, Bool.not_true, call_step' f, wrap_succ (show i < 9223372036854775807 by omega)]
  · show c53_4 (arun p n) fuel a0_0 a0_0 rec ((List.length a0_0 : Nat) : Int) = _; unfold c53_4; simp only [dec_end, cond_false]
theorem sz6 (a0_0 : List (Row K63)) (left : Int) (hok : ROkay K22 (a0_0, ())) (h0 : 0 ≤ left) (h1 : left ≤ 1048576) : ∃ r : Int, Ran p 3 6 [.val false ⟨K22, (a0_0, ())⟩, .val false ⟨K3, (left, ())⟩] ⟨[⟨K3, (r, ())⟩], []⟩ ∧ (0 ≤ r → r + szR K22 (a0_0, ()) ≤ left ∧ Small K22 (a0_0, ())) := by
  have hl : ((List.length a0_0 : Nat) : Int) ≤ 9223372036854775807 := by have := (rsl hok).1; exact Int.ofNat_le.2 this
  have hw : IntKind.i64.wrap (left - ((List.length a0_0 : Nat) : Int)) = left - ((List.length a0_0 : Nat) : Int) := wrap64 (by omega) (by omega)
  by_cases hn : left - ((List.length a0_0 : Nat) : Int) < 0
  · exact ⟨-1, go6 fun n hn' => Ev.now fun fuel => by unfold T6; rw [hw]; exact bif_pos hn, by omega⟩
  · refine szl_factM (p := p) (lvl := 2) (xs := a0_0) (S := fun r => Small K63 r) (M := fun r => szR K63 r) (fun r => szR_nn _ _) (st := fun (i : Nat) (l : Int) => (l, (i : Int))) (W := fun n fuel => T6 (arun p n) fuel a0_0 left) (c := fun n fuel (_ : Unit) => c6_5 (arun p n) fuel a0_0) (l0 := left - ((List.length a0_0 : Nat) : Int)) (f := fun x l => [.val true ⟨K63, x⟩, .val false ⟨K3, (l, ())⟩]) (q := 29) (r0 := fun r => ⟨[⟨K3, (r, ())⟩], []⟩) ?_ ?_ ?_ ?_ (by omega) (by omega) (fun r hr hp => ⟨r, go6 fun n hn => hr n hn, fun h => ⟨by have := (hp h).1; show r + (((List.length a0_0 : Nat) : Int) + sumI (szR K63) a0_0 + 0) ≤ left; replace this : r + sumI (szR K63) a0_0 ≤ _ := this; omega, ssm (Int.ofNat_le.1 (by show _ ≤ (1048576 : Int); omega)) fun i r hr => ?_⟩⟩)
    · intro i hi l h2 h3; obtain ⟨r, f, g⟩ := sz29 a0_0[i] l ((rsl hok).2 i a0_0[i] (at_lt hi)) h2 h3; exact ⟨r, g, fun n hn => f n (by omega)⟩
    · intro n _ fuel; show T6 (arun p n) fuel a0_0 left = _; unfold T6; rw [hw]; exact bif_neg hn
    · intro n fuel a rec i hi l r hr; replace hr : arun p n 29 [.val true ⟨K63, a0_0[i]⟩, .val false ⟨K3, (l, ())⟩] = some ⟨[⟨K3, (r, ())⟩], []⟩ := hr; show c6_5 (arun p n) fuel a0_0 rec (l, (i : Int)) = _; unfold c6_5; simp only [dec_lt hi, dec_nn, Int.toNat_natCast, at_lt hi, Option.bind_some, cond_true, call_step' hr, wrap_succ (show i < 9223372036854775807 by omega)]
    · intro n fuel a rec l; show c6_5 (arun p n) fuel a0_0 rec (l, ((List.length a0_0 : Nat) : Int)) = _; unfold c6_5; simp only [dec_end, cond_false]
    · obtain ⟨hi, rfl⟩ := at_some hr; have := (hp h).2 i hi; exact this
theorem to9 (a0_0 : List (Row K63)) (hs : Small K22 (a0_0, ())) : Ran p 3 9 [.val false ⟨K22, (a0_0, ())⟩] ⟨[⟨K26, (a0_0, ())⟩], []⟩ := go9 fun n hn => by
  have hl : List.length a0_0 ≤ 1048576 := (ssl hs).1
  refine Ev.eq (fun fuel => by unfold T9; exact bif_and3 (Int.natCast_nonneg _) (Int.ofNat_le.2 (Nat.le_trans hl (by decide))) rfl) ?_
  refine It.ev (c := fun fuel (_ : Unit) => c9_3 (arun p n) fuel a0_0) (i := ()) (r := fun _ => some ⟨[⟨K26, (a0_0, ())⟩], []⟩) ?_ rfl
  refine to_loop (α := Row K68) a0_0 (zeroRow K68) (fun i ys => ((i : Int), ys)) (fun i hi ys hy fuel a rec => ?_) (fun fuel a rec => ?_)
  · have hy' : i < ys.length := by rw [hy]; exact hi
    have hi1 : i < List.length (α := Row K63) a0_0 := hi
    have hb : i < 9223372036854775807 := Nat.lt_of_lt_of_le hi (Nat.le_trans hl (by decide))
    have f := to31 a0_0[i] ((ssl hs).2 i a0_0[i] (at_lt hi)) n (by omega)
    show c9_3 (arun p n) fuel a0_0 rec ((i : Int), ys) = _; unfold c9_3; simp only [dec_lt hi1, dec_nn, Int.toNat_natCast, at_lt hi1, at_lt hy', Option.bind_some, cond_true, call_step' f, wrap_succ hb] <;> rfl
  · show c9_3 (arun p n) fuel a0_0 rec (((List.length a0_0 : Nat) : Int), a0_0) = _; unfold c9_3; simp only [dec_end, cond_false] <;> rfl
theorem eq12 (a0_0 : List (Row K68)) (hs : LmR K26 (a0_0, ())) : Ran p 3 12 [.val false ⟨K26, (a0_0, ())⟩, .val false ⟨K26, (a0_0, ())⟩] ⟨[⟨K4, (true, ())⟩], []⟩ := go12 fun n hn => by
  have hl : List.length a0_0 ≤ 4611686018427387904 := (lsl hs).1
  refine Ev.eq (fun fuel => by unfold T12; simp only [bne_self_eq_false, cond_false]; rfl) ?_
  refine It.ev (c := fun fuel (_ : Unit) => c12_4 (arun p n) fuel a0_0 a0_0) (i := ()) (r := fun _ => some ⟨[⟨K4, (true, ())⟩], []⟩) ?_ rfl
  refine eq_loop a0_0.length (fun i => (i : Int)) (fun i hi fuel a rec => ?_) (fun fuel a rec => ?_)
  · have f := eq33 a0_0[i] ((lsl hs).2 i a0_0[i] (at_lt hi)) n (by omega)
    show c12_4 (arun p n) fuel a0_0 a0_0 rec (i : Int) = _; unfold c12_4; simp only [dec_lt hi, dec_nn, Int.toNat_natCast, at_lt hi, Option.bind_some, cond_true, cond_false, bne_self_eq_false, Bool.not_true, call_step' f, wrap_succ (show i < 9223372036854775807 by omega)]
  · show c12_4 (arun p n) fuel a0_0 a0_0 rec ((List.length a0_0 : Nat) : Int) = _; unfold c12_4; simp only [dec_end, cond_false]
theorem eq13 (a0_0 : List (Row K48)) (hs : LmR K29 (a0_0, ())) : Ran p 3 13 [.val false ⟨K29, (a0_0, ())⟩, .val false ⟨K29, (a0_0, ())⟩] ⟨[⟨K4, (true, ())⟩], []⟩ := go13 fun n hn => by
  have hl : List.length a0_0 ≤ 4611686018427387904 := (lsl hs).1
  refine Ev.eq (fun fuel => by unfold T13; simp only [bne_self_eq_false, cond_false]; rfl) ?_
  refine It.ev (c := fun fuel (_ : Unit) => c13_4 (arun p n) fuel a0_0 a0_0) (i := ()) (r := fun _ => some ⟨[⟨K4, (true, ())⟩], []⟩) ?_ rfl
  refine eq_loop a0_0.length (fun i => (i : Int)) (fun i hi fuel a rec => ?_) (fun fuel a rec => ?_)
  · have f := eq34 a0_0[i] ((lsl hs).2 i a0_0[i] (at_lt hi)) n (by omega)
    show c13_4 (arun p n) fuel a0_0 a0_0 rec (i : Int) = _; unfold c13_4; simp only [dec_lt hi, dec_nn, Int.toNat_natCast, at_lt hi, Option.bind_some, cond_true, cond_false, bne_self_eq_false, Bool.not_true, call_step' f, wrap_succ (show i < 9223372036854775807 by omega)]
  · show c13_4 (arun p n) fuel a0_0 a0_0 rec ((List.length a0_0 : Nat) : Int) = _; unfold c13_4; simp only [dec_end, cond_false]
theorem sz24 (a0 : Row K54) (left : Int) (hok : ROkay K54 a0) (h0 : 0 ≤ left) (h1 : left ≤ 1048576) : ∃ r : Int, Ran p 4 24 [.val true ⟨K54, a0⟩, .val false ⟨K3, (left, ())⟩] ⟨[⟨K3, (r, ())⟩], []⟩ ∧ (0 ≤ r → r + szR K54 a0 ≤ left ∧ Small K54 a0) := by
  obtain ⟨r0, f0, g0⟩ := sz6 (@vL K63 a0.1) left (rmk (rhd hok) trivial) (by omega) (by omega)
  by_cases n0 : r0 < 0
  · exact ⟨-1, go24 fun n hn => Ev.now fun fuel => by unfold T24; exact (call_step (f0 n (by omega))).trans <| (bif_pos n0), by omega⟩
  have l0 := (g0 (by omega)).1
  replace l0 : r0 + (szT (.sl K63) a0.1 + 0) ≤ left := l0
  have z0 : 0 ≤ szR K22 ((@vL K63 a0.1), ()) := szR_nn _ _
  replace z0 : 0 ≤ (szT (.sl K63) a0.1 + 0) := z0
  have s0 := shd (g0 (by omega)).2
  obtain ⟨r1, f1, g1⟩ := sz51 (@vL K103 a0.2.1) r0 (rmk (rhd (rtl hok)) trivial) (by omega) (by omega)
  by_cases n1 : r1 < 0
  · exact ⟨-1, go24 fun n hn => Ev.now fun fuel => by unfold T24; exact (call_step (f0 n (by omega))).trans <| (bif_neg n0).trans <| (call_step (f1 n (by omega))).trans <| (bif_pos n1), by omega⟩
  have l1 := (g1 (by omega)).1
  replace l1 : r1 + (szT (.sl K103) a0.2.1 + 0) ≤ r0 := l1
  have z1 : 0 ≤ szR K52 ((@vL K103 a0.2.1), ()) := szR_nn _ _
  replace z1 : 0 ≤ (szT (.sl K103) a0.2.1 + 0) := z1
  have s1 := shd (g1 (by omega)).2
  exact ⟨r1, go24 fun n hn => Ev.now fun fuel => by unfold T24; exact (call_step (f0 n (by omega))).trans <| (bif_neg n0).trans <| (call_step (f1 n (by omega))).trans <| (bif_neg n1).trans <|  rfl, fun _ => ⟨by show _ + (szT (.sl K63) a0.1 + (szT (.sl K103) a0.2.1 + 0)) ≤ _; omega, (smk s0 (smk s1 trivial))⟩⟩
theorem to25 (a0 : Row K54) (hs : Small K54 a0) : Ran p 4 25 [.val true ⟨K54, a0⟩] ⟨[⟨K40, a0⟩], []⟩ := go25 fun n hn => Ev.now fun fuel => by
  unfold T25; exact (call_step (to9 (@vL K63 a0.1) (smk (shd hs) trivial) n (by omega))).trans <| (call_step (to52 (@vL K103 a0.2.1) (smk (shd (stl hs)) trivial) n (by omega))).trans <|  rfl
theorem eq26 (a0 : Row K40) (hs : LmR K40 a0) : Ran p 4 26 [.val true ⟨K40, a0⟩, .val true ⟨K40, a0⟩] ⟨[⟨K4, (true, ())⟩], []⟩ := go26 fun n hn => Ev.now fun fuel => by
  have f0 := eq12 (@vL K68 a0.1) (lmk (lhd hs) trivial) n (by omega)
  have f1 := eq53 (@vL K80 a0.2.1) (lmk (lhd (ltl hs)) trivial) n (by omega)
  unfold T26; simp only [call_step' f0, call_step' f1, bne_self_eq_false, beq_self_eq_true, beqB_self, Bool.not_true, cond_false, cond_true]
end Go.Abs.Nz
