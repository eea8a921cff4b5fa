/- What the functions of this program answer, part a. -/
import Derived.Test.YthgekoledembcaaXr0
import Derived.Test.YthgekoledembcaaW2
set_option linter.unusedVariables false
set_option linter.unusedSimpArgs false
namespace Go.Abs.Nz
open Go Go.Abs
theorem sz55 (a0 : Row K61) (left : Int) (hok : ROkay K61 a0) (h0 : 0 ≤ left) (h1 : left ≤ 1048576) : ∃ r : Int, Ran p 1 55 [.val true ⟨K61, a0⟩, .val false ⟨K3, (left, ())⟩] ⟨[⟨K3, (r, ())⟩], []⟩ ∧ (0 ≤ r → r + szR K61 a0 ≤ left ∧ Small K61 a0) := by
  have hl : ((ByteArray.size (vS a0.2.2.2.2.1) : Nat) : Int) ≤ 9223372036854775807 := by have := (rhd (rtl (rtl (rtl (rtl hok))))); exact Int.ofNat_le.2 this
  have hw : IntKind.i64.wrap (left - ((ByteArray.size (vS a0.2.2.2.2.1) : Nat) : Int)) = left - ((ByteArray.size (vS a0.2.2.2.2.1) : Nat) : Int) := wrap64 (by omega) (by omega)
  by_cases hn : left - ((ByteArray.size (vS a0.2.2.2.2.1) : Nat) : Int) < 0
  · exact ⟨-1, go55 fun n hn' => Ev.now fun fuel => by unfold T55; rw [hw]; exact bif_pos hn, by omega⟩
  · have hz : ByteArray.size (vS a0.2.2.2.2.1) ≤ small := Int.ofNat_le.1 (by show ((ByteArray.size (vS a0.2.2.2.2.1) : Nat) : Int) ≤ (1048576 : Int); omega)
    exact ⟨left - ((ByteArray.size (vS a0.2.2.2.2.1) : Nat) : Int), go55 fun n hn' => Ev.now fun fuel => by unfold T55; rw [hw]; exact bif_neg hn, fun _ => ⟨by show _ + (0 + (0 + (0 + (0 + (((ByteArray.size (vS a0.2.2.2.2.1) : Nat) : Int) + 0))))) ≤ left; omega, (smk trivial (smk trivial (smk trivial (smk trivial (smk hz trivial)))))⟩⟩
theorem to56 (a0 : Row K61) (hs : Small K61 a0) : Ran p 1 56 [.val true ⟨K61, a0⟩] ⟨[⟨K46, a0⟩], []⟩ := go56 fun n hn => Ev.now fun fuel => by
  unfold T56; exact  rfl
theorem eq57 (a0 : Row K46) (hs : LmR K46 a0) : Ran p 1 57 [.val true ⟨K46, a0⟩, .val true ⟨K46, a0⟩] ⟨[⟨K4, (true, ())⟩], []⟩ := go57 fun n hn => Ev.now fun fuel => by
  unfold T57; simp only [bne_self_eq_false, beq_self_eq_true, beqB_self, Bool.not_true, cond_false, cond_true]
theorem sz29 (a0 : Row K63) (left : Int) (hok : ROkay K63 a0) (h0 : 0 ≤ left) (h1 : left ≤ 1048576) : ∃ r : Int, Ran p 2 29 [.val true ⟨K63, a0⟩, .val false ⟨K3, (left, ())⟩] ⟨[⟨K3, (r, ())⟩], []⟩ ∧ (0 ≤ r → r + szR K63 a0 ≤ left ∧ Small K63 a0) := by
  obtain ⟨r0, f0, g0⟩ := sz55 a0.2 left (rtl hok) (by omega) (by omega)
  by_cases n0 : r0 < 0
  · exact ⟨-1, go29 fun n hn => Ev.now fun fuel => by unfold T29; exact (call_step (f0 n (by omega))).trans <| (bif_pos n0), by omega⟩
  have l0 := (g0 (by omega)).1
  replace l0 : r0 + (0 + (0 + (0 + (0 + (((ByteArray.size (vS a0.2.2.2.2.2.1) : Nat) : Int) + 0))))) ≤ left := l0
  have z0 : 0 ≤ szR K61 a0.2 := szR_nn _ _
  replace z0 : 0 ≤ (0 + (0 + (0 + (0 + (((ByteArray.size (vS a0.2.2.2.2.2.1) : Nat) : Int) + 0))))) := z0
  have s1 := shd (g0 (by omega)).2
  have s2 := shd (stl (g0 (by omega)).2)
  have s3 := shd (stl (stl (g0 (by omega)).2))
  have s4 := shd (stl (stl (stl (g0 (by omega)).2)))
  have s5 := shd (stl (stl (stl (stl (g0 (by omega)).2))))
  exact ⟨r0, go29 fun n hn => Ev.now fun fuel => by unfold T29; exact (call_step (f0 n (by omega))).trans <| (bif_neg n0).trans <|  rfl, fun _ => ⟨by show _ + (0 + (0 + (0 + (0 + (0 + (((ByteArray.size (vS a0.2.2.2.2.2.1) : Nat) : Int) + 0)))))) ≤ _; omega, (smk trivial (smk s1 (smk s2 (smk s3 (smk s4 (smk s5 trivial))))))⟩⟩
theorem sz30 (a0 : Row K66) (left : Int) (hok : ROkay K66 a0) (h0 : 0 ≤ left) (h1 : left ≤ 1048576) : ∃ r : Int, Ran p 2 30 [.val true ⟨K66, a0⟩, .val false ⟨K3, (left, ())⟩] ⟨[⟨K3, (r, ())⟩], []⟩ ∧ (0 ≤ r → r + szR K66 a0 ≤ left ∧ Small K66 a0) := by
  obtain ⟨r0, f0, g0⟩ := sz55 a0.2.2 left (rtl (rtl hok)) (by omega) (by omega)
  by_cases n0 : r0 < 0
  · exact ⟨-1, go30 fun n hn => Ev.now fun fuel => by unfold T30; exact (call_step (f0 n (by omega))).trans <| (bif_pos n0), by omega⟩
  have l0 := (g0 (by omega)).1
  replace l0 : r0 + (0 + (0 + (0 + (0 + (((ByteArray.size (vS a0.2.2.2.2.2.2.1) : Nat) : Int) + 0))))) ≤ left := l0
  have z0 : 0 ≤ szR K61 a0.2.2 := szR_nn _ _
  replace z0 : 0 ≤ (0 + (0 + (0 + (0 + (((ByteArray.size (vS a0.2.2.2.2.2.2.1) : Nat) : Int) + 0))))) := z0
  have s2 := shd (g0 (by omega)).2
  have s3 := shd (stl (g0 (by omega)).2)
  have s4 := shd (stl (stl (g0 (by omega)).2))
  have s5 := shd (stl (stl (stl (g0 (by omega)).2)))
  have s6 := shd (stl (stl (stl (stl (g0 (by omega)).2))))
  exact ⟨r0, go30 fun n hn => Ev.now fun fuel => by unfold T30; exact (call_step (f0 n (by omega))).trans <| (bif_neg n0).trans <|  rfl, fun _ => ⟨by show _ + (0 + (0 + (0 + (0 + (0 + (0 + (((ByteArray.size (vS a0.2.2.2.2.2.2.1) : Nat) : Int) + 0))))))) ≤ _; omega, (smk trivial (smk trivial (smk s2 (smk s3 (smk s4 (smk s5 (smk s6 trivial)))))))⟩⟩
theorem to31 (a0 : Row K63) (hs : Small K63 a0) : Ran p 2 31 [.val true ⟨K63, a0⟩] ⟨[⟨K68, a0⟩], []⟩ := go31 fun n hn => Ev.now fun fuel => by
  unfold T31; exact (call_step (to56 a0.2 (stl hs) n (by omega))).trans <|  rfl
theorem to32 (a0 : Row K66) (hs : Small K66 a0) : Ran p 2 32 [.val true ⟨K66, a0⟩] ⟨[⟨K48, a0⟩], []⟩ := go32 fun n hn => Ev.now fun fuel => by
  unfold T32; exact (call_step (to56 a0.2.2 (stl (stl hs)) n (by omega))).trans <|  rfl
theorem eq33 (a0 : Row K68) (hs : LmR K68 a0) : Ran p 2 33 [.val true ⟨K68, a0⟩, .val true ⟨K68, a0⟩] ⟨[⟨K4, (true, ())⟩], []⟩ := go33 fun n hn => Ev.now fun fuel => by
  have f0 := eq57 a0.2 (ltl hs) n (by omega)
  unfold T33; simp only [call_step' f0, bne_self_eq_false, beq_self_eq_true, beqB_self, Bool.not_true, cond_false, cond_true]
theorem eq34 (a0 : Row K48) (hs : LmR K48 a0) : Ran p 2 34 [.val true ⟨K48, a0⟩, .val true ⟨K48, a0⟩] ⟨[⟨K4, (true, ())⟩], []⟩ := go34 fun n hn => Ev.now fun fuel => by
  have f0 := eq57 a0.2.2 (ltl (ltl hs)) n (by omega)
  unfold T34; simp only [call_step' f0, bne_self_eq_false, beq_self_eq_true, beqB_self, Bool.not_true, cond_false, cond_true]
theorem sz6 (a0_0 : List (Row K63)) (left : Int) (hok : ROkay K22 (a0_0, ())) (h0 : 0 ≤ left) (h1 : left ≤ 1048576) : ∃ r : Int, Ran p 3 6 [.val false ⟨K22, (a0_0, ())⟩, .val false ⟨K3, (left, ())⟩] ⟨[⟨K3, (r, ())⟩], []⟩ ∧ (0 ≤ r → r + szR K22 (a0_0, ()) ≤ left ∧ Small K22 (a0_0, ())) := by
  have hl : ((List.length a0_0 : Nat) : Int) ≤ 9223372036854775807 := by have := (rsl hok).1; exact Int.ofNat_le.2 this
  have hw : IntKind.i64.wrap (left - ((List.length a0_0 : Nat) : Int)) = left - ((List.length a0_0 : Nat) : Int) := wrap64 (by omega) (by omega)
  by_cases hn : left - ((List.length a0_0 : Nat) : Int) < 0
  · exact ⟨-1, go6 fun n hn' => Ev.now fun fuel => by unfold T6; rw [hw]; exact bif_pos hn, by omega⟩
  · refine szl_factM (p := p) (lvl := 2) (xs := a0_0) (S := fun r => Small K63 r) (M := fun r => szR K63 r) (fun r => szR_nn _ _) (st := fun (i : Nat) (l : Int) => (l, (i : Int))) (W := fun n fuel => T6 (arun p n) fuel a0_0 left) (c := fun n fuel (_ : Unit) => c6_5 (arun p n) fuel a0_0) (l0 := left - ((List.length a0_0 : Nat) : Int)) (f := fun x l => [.val true ⟨K63, x⟩, .val false ⟨K3, (l, ())⟩]) (q := 29) (r0 := fun r => ⟨[⟨K3, (r, ())⟩], []⟩) ?_ ?_ ?_ ?_ (by omega) (by omega) (fun r hr hp => ⟨r, go6 fun n hn => hr n hn, fun h => ⟨by have := (hp h).1; show r + (((List.length a0_0 : Nat) : Int) + sumI (szR K63) a0_0 + 0) ≤ left; replace this : r + sumI (szR K63) a0_0 ≤ _ := this; omega, ssm (Int.ofNat_le.1 (by show _ ≤ (1048576 : Int); omega)) fun i r hr => ?_⟩⟩)
    · intro i hi l h2 h3; obtain ⟨r, f, g⟩ := sz29 a0_0[i] l ((rsl hok).2 i a0_0[i] (at_lt hi)) h2 h3; exact ⟨r, g, fun n hn => f n (by omega)⟩
    · intro n _ fuel; show T6 (arun p n) fuel a0_0 left = _; unfold T6; rw [hw]; exact bif_neg hn
    · intro n fuel a rec i hi l r hr; replace hr : arun p n 29 [.val true ⟨K63, a0_0[i]⟩, .val false ⟨K3, (l, ())⟩] = some ⟨[⟨K3, (r, ())⟩], []⟩ := hr; show c6_5 (arun p n) fuel a0_0 rec (l, (i : Int)) = _; unfold c6_5; simp only [dec_lt hi, dec_nn, Int.toNat_natCast, at_lt hi, Option.bind_some, cond_true, call_step' hr, wrap_succ (show i < 9223372036854775807 by omega)]
    · intro n fuel a rec l; show c6_5 (arun p n) fuel a0_0 rec (l, ((List.length a0_0 : Nat) : Int)) = _; unfold c6_5; simp only [dec_end, cond_false]
    · obtain ⟨hi, rfl⟩ := at_some hr; have := (hp h).2 i hi; exact this
theorem sz7 (a0_0 : List (Row K66)) (left : Int) (hok : ROkay K23 (a0_0, ())) (h0 : 0 ≤ left) (h1 : left ≤ 1048576) : ∃ r : Int, Ran p 3 7 [.val false ⟨K23, (a0_0, ())⟩, .val false ⟨K3, (left, ())⟩] ⟨[⟨K3, (r, ())⟩], []⟩ ∧ (0 ≤ r → r + szR K23 (a0_0, ()) ≤ left ∧ Small K23 (a0_0, ())) := by
  have hl : ((List.length a0_0 : Nat) : Int) ≤ 9223372036854775807 := by have := (rsl hok).1; exact Int.ofNat_le.2 this
  have hw : IntKind.i64.wrap (left - ((List.length a0_0 : Nat) : Int)) = left - ((List.length a0_0 : Nat) : Int) := wrap64 (by omega) (by omega)
  by_cases hn : left - ((List.length a0_0 : Nat) : Int) < 0
  · exact ⟨-1, go7 fun n hn' => Ev.now fun fuel => by unfold T7; rw [hw]; exact bif_pos hn, by omega⟩
  · refine szl_factM (p := p) (lvl := 2) (xs := a0_0) (S := fun r => Small K66 r) (M := fun r => szR K66 r) (fun r => szR_nn _ _) (st := fun (i : Nat) (l : Int) => (l, (i : Int))) (W := fun n fuel => T7 (arun p n) fuel a0_0 left) (c := fun n fuel (_ : Unit) => c7_5 (arun p n) fuel a0_0) (l0 := left - ((List.length a0_0 : Nat) : Int)) (f := fun x l => [.val true ⟨K66, x⟩, .val false ⟨K3, (l, ())⟩]) (q := 30) (r0 := fun r => ⟨[⟨K3, (r, ())⟩], []⟩) ?_ ?_ ?_ ?_ (by omega) (by omega) (fun r hr hp => ⟨r, go7 fun n hn => hr n hn, fun h => ⟨by have := (hp h).1; show r + (((List.length a0_0 : Nat) : Int) + sumI (szR K66) a0_0 + 0) ≤ left; replace this : r + sumI (szR K66) a0_0 ≤ _ := this; omega, ssm (Int.ofNat_le.1 (by show _ ≤ (1048576 : Int); omega)) fun i r hr => ?_⟩⟩)
    · intro i hi l h2 h3; obtain ⟨r, f, g⟩ := sz30 a0_0[i] l ((rsl hok).2 i a0_0[i] (at_lt hi)) h2 h3; exact ⟨r, g, fun n hn => f n (by omega)⟩
    · intro n _ fuel; show T7 (arun p n) fuel a0_0 left = _; unfold T7; rw [hw]; exact bif_neg hn
    · intro n fuel a rec i hi l r hr; replace hr : arun p n 30 [.val true ⟨K66, a0_0[i]⟩, .val false ⟨K3, (l, ())⟩] = some ⟨[⟨K3, (r, ())⟩], []⟩ := hr; show c7_5 (arun p n) fuel a0_0 rec (l, (i : Int)) = _; unfold c7_5; simp only [dec_lt hi, dec_nn, Int.toNat_natCast, at_lt hi, Option.bind_some, cond_true, call_step' hr, wrap_succ (show i < 9223372036854775807 by omega)]
    · intro n fuel a rec l; show c7_5 (arun p n) fuel a0_0 rec (l, ((List.length a0_0 : Nat) : Int)) = _; unfold c7_5; simp only [dec_end, cond_false]
    · obtain ⟨hi, rfl⟩ := at_some hr; have := (hp h).2 i hi; exact this
theorem to9 (a0_0 : List (Row K63)) (hs : Small K22 (a0_0, ())) : Ran p 3 9 [.val false ⟨K22, (a0_0, ())⟩] ⟨[⟨K26, (a0_0, ())⟩], []⟩ := go9 fun n hn => by
  have hl : List.length a0_0 ≤ 1048576 := (ssl hs).1
  refine Ev.eq (fun fuel => by unfold T9; exact bif_and3 (Int.natCast_nonneg _) (Int.ofNat_le.2 (Nat.le_trans hl (by decide))) rfl) ?_
  refine It.ev (c := fun fuel (_ : Unit) => c9_3 (arun p n) fuel a0_0) (i := ()) (r := fun _ => some ⟨[⟨K26, (a0_0, ())⟩], []⟩) ?_ rfl
  refine to_loop (α := Row K68) a0_0 (zeroRow K68) (fun i ys => ((i : Int), ys)) (fun i hi ys hy fuel a rec => ?_) (fun fuel a rec => ?_)
  · have hy' : i < ys.length := by rw [hy]; exact hi
    have hi1 : i < List.length (α := Row K63) a0_0 := hi
    have hb : i < 9223372036854775807 := Nat.lt_of_lt_of_le hi (Nat.le_trans hl (by decide))
    have f := to31 a0_0[i] ((ssl hs).2 i a0_0[i] (at_lt hi)) n (by omega)
    show c9_3 (arun p n) fuel a0_0 rec ((i : Int), ys) = _; unfold c9_3; simp only [dec_lt hi1, dec_nn, Int.toNat_natCast, at_lt hi1, at_lt hy', Option.bind_some, cond_true, call_step' f, wrap_succ hb] <;> rfl
  · show c9_3 (arun p n) fuel a0_0 rec (((List.length a0_0 : Nat) : Int), a0_0) = _; unfold c9_3; simp only [dec_end, cond_false] <;> rfl
theorem to10 (a0_0 : List (Row K66)) (hs : Small K23 (a0_0, ())) : Ran p 3 10 [.val false ⟨K23, (a0_0, ())⟩] ⟨[⟨K29, (a0_0, ())⟩], []⟩ := go10 fun n hn => by
  have hl : List.length a0_0 ≤ 1048576 := (ssl hs).1
  refine Ev.eq (fun fuel => by unfold T10; exact bif_and3 (Int.natCast_nonneg _) (Int.ofNat_le.2 (Nat.le_trans hl (by decide))) rfl) ?_
  refine It.ev (c := fun fuel (_ : Unit) => c10_3 (arun p n) fuel a0_0) (i := ()) (r := fun _ => some ⟨[⟨K29, (a0_0, ())⟩], []⟩) ?_ rfl
  refine to_loop (α := Row K48) a0_0 (zeroRow K48) (fun i ys => ((i : Int), ys)) (fun i hi ys hy fuel a rec => ?_) (fun fuel a rec => ?_)
  · have hy' : i < ys.length := by rw [hy]; exact hi
    have hi1 : i < List.length (α := Row K66) a0_0 := hi
    have hb : i < 9223372036854775807 := Nat.lt_of_lt_of_le hi (Nat.le_trans hl (by decide))
    have f := to32 a0_0[i] ((ssl hs).2 i a0_0[i] (at_lt hi)) n (by omega)
    show c10_3 (arun p n) fuel a0_0 rec ((i : Int), ys) = _; unfold c10_3; simp only [dec_lt hi1, dec_nn, Int.toNat_natCast, at_lt hi1, at_lt hy', Option.bind_some, cond_true, call_step' f, wrap_succ hb] <;> rfl
  · show c10_3 (arun p n) fuel a0_0 rec (((List.length a0_0 : Nat) : Int), a0_0) = _; unfold c10_3; simp only [dec_end, cond_false] <;> rfl
theorem eq12 (a0_0 : List (Row K68)) (hs : LmR K26 (a0_0, ())) : Ran p 3 12 [.val false ⟨K26, (a0_0, ())⟩, .val false ⟨K26, (a0_0, ())⟩] ⟨[⟨K4, (true, ())⟩], []⟩ := go12 fun n hn => by
  have hl : List.length a0_0 ≤ 4611686018427387904 := (lsl hs).1
  refine Ev.eq (fun fuel => by unfold T12; simp only [bne_self_eq_false, cond_false]; rfl) ?_
  refine It.ev (c := fun fuel (_ : Unit) => c12_4 (arun p n) fuel a0_0 a0_0) (i := ()) (r := fun _ => some ⟨[⟨K4, (true, ())⟩], []⟩) ?_ rfl
  refine eq_loop a0_0.length (fun i => (i : Int)) (fun i hi fuel a rec => ?_) (fun fuel a rec => ?_)
  · have f := eq33 a0_0[i] ((lsl hs).2 i a0_0[i] (at_lt hi)) n (by omega)
    show c12_4 (arun p n) fuel a0_0 a0_0 rec (i : Int) = _; unfold c12_4; simp only [dec_lt hi, dec_nn, Int.toNat_natCast, at_lt hi, Option.bind_some, cond_true, cond_false, bne_self_eq_false, Bool.not_true, call_step' f, wrap_succ (show i < 9223372036854775807 by omega)]
  · show c12_4 (arun p n) fuel a0_0 a0_0 rec ((List.length a0_0 : Nat) : Int) = _; unfold c12_4; simp only [dec_end, cond_false]
theorem eq13 (a0_0 : List (Row K48)) (hs : LmR K29 (a0_0, ())) : Ran p 3 13 [.val false ⟨K29, (a0_0, ())⟩, .val false ⟨K29, (a0_0, ())⟩] ⟨[⟨K4, (true, ())⟩], []⟩ := go13 fun n hn => by
  have hl : List.length a0_0 ≤ 4611686018427387904 := (lsl hs).1
  refine Ev.eq (fun fuel => by unfold T13; simp only [bne_self_eq_false, cond_false]; rfl) ?_
  refine It.ev (c := fun fuel (_ : Unit) => c13_4 (arun p n) fuel a0_0 a0_0) (i := ()) (r := fun _ => some ⟨[⟨K4, (true, ())⟩], []⟩) ?_ rfl
  refine eq_loop a0_0.length (fun i => (i : Int)) (fun i hi fuel a rec => ?_) (fun fuel a rec => ?_)
  · have f := eq34 a0_0[i] ((lsl hs).2 i a0_0[i] (at_lt hi)) n (by omega)
    show c13_4 (arun p n) fuel a0_0 a0_0 rec (i : Int) = _; unfold c13_4; simp only [dec_lt hi, dec_nn, Int.toNat_natCast, at_lt hi, Option.bind_some, cond_true, cond_false, bne_self_eq_false, Bool.not_true, call_step' f, wrap_succ (show i < 9223372036854775807 by omega)]
  · show c13_4 (arun p n) fuel a0_0 a0_0 rec ((List.length a0_0 : Nat) : Int) = _; unfold c13_4; simp only [dec_end, cond_false]
end Go.Abs.Nz
