/- What the functions of this program answer, part a. -/
import Derived.Test.YthgbmlfjiagadaaXr0
import Derived.Test.YthgbmlfjiagadaaW1
set_option linter.unusedVariables false
set_option linter.unusedSimpArgs false
namespace Go.Abs.Uz
open Go Go.Abs
theorem sz57 (a0_0 : List (Row K146)) (left : Int) (hok : ROkay K52 (a0_0, ())) (h0 : 0 ≤ left) (h1 : left ≤ 1048576) : ∃ r : Int, Ran p 1 57 [.val false ⟨K52, (a0_0, ())⟩, .val false ⟨K3, (left, ())⟩] ⟨[⟨K3, (r, ())⟩], []⟩ ∧ (0 ≤ r → r ≤ left ∧ Small K52 (a0_0, ())) := by
  have hl : ((List.length a0_0 : Nat) : Int) ≤ 9223372036854775807 := by have := (rsl hok).1; exact Int.ofNat_le.2 this
  have hw : IntKind.i64.wrap (left - ((List.length a0_0 : Nat) : Int)) = left - ((List.length a0_0 : Nat) : Int) := wrap64 (by omega) (by omega)
  by_cases hn : left - ((List.length a0_0 : Nat) : Int) < 0
  · exact ⟨-1, go57 fun n hn' => Ev.now fun fuel => by unfold T57; rw [hw]; exact bif_pos hn, by omega⟩
  · refine ⟨left - ((List.length a0_0 : Nat) : Int), go57 fun n hn' => Ev.now fun fuel => by unfold T57; rw [hw]; exact bif_neg hn, fun _ => ⟨by omega, ssm (Int.ofNat_le.1 (by show _ ≤ (1048576 : Int); omega)) fun i r _ => ?_⟩⟩
    exact (smk trivial (smk trivial trivial))
theorem sz78 (a0 : Row K75) (left : Int) (hok : ROkay K75 a0) (h0 : 0 ≤ left) (h1 : left ≤ 1048576) : ∃ r : Int, Ran p 1 78 [.val true ⟨K75, a0⟩, .val false ⟨K3, (left, ())⟩] ⟨[⟨K3, (r, ())⟩], []⟩ ∧ (0 ≤ r → r ≤ left ∧ Small K75 a0) := by
  have hl : ((ByteArray.size (vS a0.2.2.2.2.1) : Nat) : Int) ≤ 9223372036854775807 := by have := (rhd (rtl (rtl (rtl (rtl hok))))); exact Int.ofNat_le.2 this
  have hw : IntKind.i64.wrap (left - ((ByteArray.size (vS a0.2.2.2.2.1) : Nat) : Int)) = left - ((ByteArray.size (vS a0.2.2.2.2.1) : Nat) : Int) := wrap64 (by omega) (by omega)
  by_cases hn : left - ((ByteArray.size (vS a0.2.2.2.2.1) : Nat) : Int) < 0
  · exact ⟨-1, go78 fun n hn' => Ev.now fun fuel => by unfold T78; rw [hw]; exact bif_pos hn, by omega⟩
  · have hz : ByteArray.size (vS a0.2.2.2.2.1) ≤ small := Int.ofNat_le.1 (by show ((ByteArray.size (vS a0.2.2.2.2.1) : Nat) : Int) ≤ (1048576 : Int); omega)
    exact ⟨left - ((ByteArray.size (vS a0.2.2.2.2.1) : Nat) : Int), go78 fun n hn' => Ev.now fun fuel => by unfold T78; rw [hw]; exact bif_neg hn, fun _ => ⟨by omega, (smk trivial (smk trivial (smk trivial (smk trivial (smk hz trivial)))))⟩⟩
theorem to79 (a0 : Row K75) (hs : Small K75 a0) : Ran p 1 79 [.val true ⟨K75, a0⟩] ⟨[⟨K46, a0⟩], []⟩ := go79 fun n hn => Ev.now fun fuel => by
  unfold T79; exact  rfl
theorem eq80 (a0 : Row K46) (hs : Small K46 a0) : Ran p 1 80 [.val true ⟨K46, a0⟩, .val true ⟨K46, a0⟩] ⟨[⟨K4, (true, ())⟩], []⟩ := go80 fun n hn => Ev.now fun fuel => by
  unfold T80; simp only [bne_self_eq_false, beq_self_eq_true, beqB_self, Bool.not_true, cond_false, cond_true]
theorem to93 (a0 : Row K146) (hs : Small K146 a0) : Ran p 1 93 [.val true ⟨K146, a0⟩] ⟨[⟨K94, a0⟩], []⟩ := go93 fun n hn => Ev.now fun fuel => by
  unfold T93; exact  rfl
theorem eq94 (a0 : Row K94) (hs : Small K94 a0) : Ran p 1 94 [.val true ⟨K94, a0⟩, .val true ⟨K94, a0⟩] ⟨[⟨K4, (true, ())⟩], []⟩ := go94 fun n hn => Ev.now fun fuel => by
  unfold T94; simp only [bne_self_eq_false, beq_self_eq_true, beqB_self, Bool.not_true, cond_false, cond_true]
theorem sz122 (a0_0 : List (Row K3)) (left : Int) (hok : ROkay K109 (a0_0, ())) (h0 : 0 ≤ left) (h1 : left ≤ 1048576) : ∃ r : Int, Ran p 1 122 [.val false ⟨K109, (a0_0, ())⟩, .val false ⟨K3, (left, ())⟩] ⟨[⟨K3, (r, ())⟩], []⟩ ∧ (0 ≤ r → r ≤ left ∧ Small K109 (a0_0, ())) := by
  have hl : ((List.length a0_0 : Nat) : Int) ≤ 9223372036854775807 := by have := (rsl hok).1; exact Int.ofNat_le.2 this
  have hw : IntKind.i64.wrap (left - ((List.length a0_0 : Nat) : Int)) = left - ((List.length a0_0 : Nat) : Int) := wrap64 (by omega) (by omega)
  by_cases hn : left - ((List.length a0_0 : Nat) : Int) < 0
  · exact ⟨-1, go122 fun n hn' => Ev.now fun fuel => by unfold T122; rw [hw]; exact bif_pos hn, by omega⟩
  · refine ⟨left - ((List.length a0_0 : Nat) : Int), go122 fun n hn' => Ev.now fun fuel => by unfold T122; rw [hw]; exact bif_neg hn, fun _ => ⟨by omega, ssm (Int.ofNat_le.1 (by show _ ≤ (1048576 : Int); omega)) fun i r _ => ?_⟩⟩
    exact (smk trivial trivial)
theorem sz124 (a0_0 : List (Row K202)) (left : Int) (hok : ROkay K153 (a0_0, ())) (h0 : 0 ≤ left) (h1 : left ≤ 1048576) : ∃ r : Int, Ran p 1 124 [.val false ⟨K153, (a0_0, ())⟩, .val false ⟨K3, (left, ())⟩] ⟨[⟨K3, (r, ())⟩], []⟩ ∧ (0 ≤ r → r ≤ left ∧ Small K153 (a0_0, ())) := by
  have hl : ((List.length a0_0 : Nat) : Int) ≤ 9223372036854775807 := by have := (rsl hok).1; exact Int.ofNat_le.2 this
  have hw : IntKind.i64.wrap (left - ((List.length a0_0 : Nat) : Int)) = left - ((List.length a0_0 : Nat) : Int) := wrap64 (by omega) (by omega)
  by_cases hn : left - ((List.length a0_0 : Nat) : Int) < 0
  · exact ⟨-1, go124 fun n hn' => Ev.now fun fuel => by unfold T124; rw [hw]; exact bif_pos hn, by omega⟩
  · refine ⟨left - ((List.length a0_0 : Nat) : Int), go124 fun n hn' => Ev.now fun fuel => by unfold T124; rw [hw]; exact bif_neg hn, fun _ => ⟨by omega, ssm (Int.ofNat_le.1 (by show _ ≤ (1048576 : Int); omega)) fun i r _ => ?_⟩⟩
    exact (smk trivial (smk trivial (smk trivial (smk trivial trivial))))
theorem sz125 (a0_0 : List (Row K204)) (left : Int) (hok : ROkay K154 (a0_0, ())) (h0 : 0 ≤ left) (h1 : left ≤ 1048576) : ∃ r : Int, Ran p 1 125 [.val false ⟨K154, (a0_0, ())⟩, .val false ⟨K3, (left, ())⟩] ⟨[⟨K3, (r, ())⟩], []⟩ ∧ (0 ≤ r → r ≤ left ∧ Small K154 (a0_0, ())) := by
  have hl : ((List.length a0_0 : Nat) : Int) ≤ 9223372036854775807 := by have := (rsl hok).1; exact Int.ofNat_le.2 this
  have hw : IntKind.i64.wrap (left - ((List.length a0_0 : Nat) : Int)) = left - ((List.length a0_0 : Nat) : Int) := wrap64 (by omega) (by omega)
  by_cases hn : left - ((List.length a0_0 : Nat) : Int) < 0
  · exact ⟨-1, go125 fun n hn' => Ev.now fun fuel => by unfold T125; rw [hw]; exact bif_pos hn, by omega⟩
  · refine ⟨left - ((List.length a0_0 : Nat) : Int), go125 fun n hn' => Ev.now fun fuel => by unfold T125; rw [hw]; exact bif_neg hn, fun _ => ⟨by omega, ssm (Int.ofNat_le.1 (by show _ ≤ (1048576 : Int); omega)) fun i r _ => ?_⟩⟩
    exact (smk trivial (smk trivial (smk trivial trivial)))
theorem sz126 (a0_0 : List (Row K5)) (left : Int) (hok : ROkay K36 (a0_0, ())) (h0 : 0 ≤ left) (h1 : left ≤ 1048576) : ∃ r : Int, Ran p 1 126 [.val false ⟨K36, (a0_0, ())⟩, .val false ⟨K3, (left, ())⟩] ⟨[⟨K3, (r, ())⟩], []⟩ ∧ (0 ≤ r → r ≤ left ∧ Small K36 (a0_0, ())) := by
  have hl : ((List.length a0_0 : Nat) : Int) ≤ 9223372036854775807 := by have := (rsl hok).1; exact Int.ofNat_le.2 this
  have hw : IntKind.i64.wrap (left - ((List.length a0_0 : Nat) : Int)) = left - ((List.length a0_0 : Nat) : Int) := wrap64 (by omega) (by omega)
  by_cases hn : left - ((List.length a0_0 : Nat) : Int) < 0
  · exact ⟨-1, go126 fun n hn' => Ev.now fun fuel => by unfold T126; rw [hw]; exact bif_pos hn, by omega⟩
  · refine ⟨left - ((List.length a0_0 : Nat) : Int), go126 fun n hn' => Ev.now fun fuel => by unfold T126; rw [hw]; exact bif_neg hn, fun _ => ⟨by omega, ssm (Int.ofNat_le.1 (by show _ ≤ (1048576 : Int); omega)) fun i r _ => ?_⟩⟩
    exact (smk trivial trivial)
theorem to129 (a0_0 : List (Row K3)) (hs : Small K109 (a0_0, ())) : Ran p 1 129 [.val false ⟨K109, (a0_0, ())⟩] ⟨[⟨K109, (a0_0, ())⟩], []⟩ := go129 fun n hn => by
  have hl : List.length a0_0 ≤ 1048576 := (ssl hs).1
  refine Ev.eq (fun fuel => by unfold T129; exact bif_and3 (Int.natCast_nonneg _) (Int.ofNat_le.2 (Nat.le_trans hl (by decide))) rfl) ?_
  refine It.ev (c := fun fuel (_ : Unit) => c129_3 (arun p n) fuel a0_0) (i := ()) (r := fun _ => some ⟨[⟨K109, (a0_0, ())⟩], []⟩) ?_ rfl
  refine to_loop (α := Row K3) a0_0 (zeroRow K3) (fun i ys => ((i : Int), ys)) (fun i hi ys hy fuel a rec => ?_) (fun fuel a rec => ?_)
  · have hy' : i < ys.length := by rw [hy]; exact hi
    have hi1 : i < List.length (α := Row K3) a0_0 := hi
    have hb : i < 9223372036854775807 := Nat.lt_of_lt_of_le hi (Nat.le_trans hl (by decide))
    show c129_3 (arun p n) fuel a0_0 rec ((i : Int), ys) = _; unfold c129_3; simp only [dec_lt hi1, dec_nn, Int.toNat_natCast, at_lt hi1, at_lt hy', Option.bind_some, cond_true, wrap_succ hb] <;> rfl
  · show c129_3 (arun p n) fuel a0_0 rec (((List.length a0_0 : Nat) : Int), a0_0) = _; unfold c129_3; simp only [dec_end, cond_false] <;> rfl
theorem to133 (a0_0 : List (Row K5)) (hs : Small K36 (a0_0, ())) : Ran p 1 133 [.val false ⟨K36, (a0_0, ())⟩] ⟨[⟨K36, (a0_0, ())⟩], []⟩ := go133 fun n hn => by
  have hl : List.length a0_0 ≤ 1048576 := (ssl hs).1
  refine Ev.eq (fun fuel => by unfold T133; exact bif_and3 (Int.natCast_nonneg _) (Int.ofNat_le.2 (Nat.le_trans hl (by decide))) rfl) ?_
  refine It.ev (c := fun fuel (_ : Unit) => c133_3 (arun p n) fuel a0_0) (i := ()) (r := fun _ => some ⟨[⟨K36, (a0_0, ())⟩], []⟩) ?_ rfl
  refine to_loop (α := Row K5) a0_0 (zeroRow K5) (fun i ys => ((i : Int), ys)) (fun i hi ys hy fuel a rec => ?_) (fun fuel a rec => ?_)
  · have hy' : i < ys.length := by rw [hy]; exact hi
    have hi1 : i < List.length (α := Row K5) a0_0 := hi
    have hb : i < 9223372036854775807 := Nat.lt_of_lt_of_le hi (Nat.le_trans hl (by decide))
    show c133_3 (arun p n) fuel a0_0 rec ((i : Int), ys) = _; unfold c133_3; simp only [dec_lt hi1, dec_nn, Int.toNat_natCast, at_lt hi1, at_lt hy', Option.bind_some, cond_true, wrap_succ hb] <;> rfl
  · show c133_3 (arun p n) fuel a0_0 rec (((List.length a0_0 : Nat) : Int), a0_0) = _; unfold c133_3; simp only [dec_end, cond_false] <;> rfl
theorem eq139 (a0_0 : List (Row K3)) (hs : Small K109 (a0_0, ())) : Ran p 1 139 [.val false ⟨K109, (a0_0, ())⟩, .val false ⟨K109, (a0_0, ())⟩] ⟨[⟨K4, (true, ())⟩], []⟩ := go139 fun n hn => by
  have hl : List.length a0_0 ≤ 1048576 := (ssl hs).1
  refine Ev.eq (fun fuel => by unfold T139; simp only [bne_self_eq_false, cond_false]; rfl) ?_
  refine It.ev (c := fun fuel (_ : Unit) => c139_4 (arun p n) fuel a0_0 a0_0) (i := ()) (r := fun _ => some ⟨[⟨K4, (true, ())⟩], []⟩) ?_ rfl
  refine eq_loop a0_0.length (fun i => (i : Int)) (fun i hi fuel a rec => ?_) (fun fuel a rec => ?_)
  · skip
    show c139_4 (arun p n) fuel a0_0 a0_0 rec (i : Int) = _; unfold c139_4; simp only [dec_lt hi, dec_nn, Int.toNat_natCast, at_lt hi, Option.bind_some, cond_true, cond_false, bne_self_eq_false, Bool.not_true, wrap_succ (show i < 9223372036854775807 by omega)]
  · show c139_4 (arun p n) fuel a0_0 a0_0 rec ((List.length a0_0 : Nat) : Int) = _; unfold c139_4; simp only [dec_end, cond_false]
theorem eq143 (a0_0 : List (Row K5)) (hs : Small K36 (a0_0, ())) : Ran p 1 143 [.val false ⟨K36, (a0_0, ())⟩, .val false ⟨K36, (a0_0, ())⟩] ⟨[⟨K4, (true, ())⟩], []⟩ := go143 fun n hn => by
  have hl : List.length a0_0 ≤ 1048576 := (ssl hs).1
  refine Ev.eq (fun fuel => by unfold T143; simp only [bne_self_eq_false, cond_false]; rfl) ?_
  refine It.ev (c := fun fuel (_ : Unit) => c143_4 (arun p n) fuel a0_0 a0_0) (i := ()) (r := fun _ => some ⟨[⟨K4, (true, ())⟩], []⟩) ?_ rfl
  refine eq_loop a0_0.length (fun i => (i : Int)) (fun i hi fuel a rec => ?_) (fun fuel a rec => ?_)
  · skip
    show c143_4 (arun p n) fuel a0_0 a0_0 rec (i : Int) = _; unfold c143_4; simp only [dec_lt hi, dec_nn, Int.toNat_natCast, at_lt hi, Option.bind_some, cond_true, cond_false, bne_self_eq_false, Bool.not_true, wrap_succ (show i < 9223372036854775807 by omega)]
  · show c143_4 (arun p n) fuel a0_0 a0_0 rec ((List.length a0_0 : Nat) : Int) = _; unfold c143_4; simp only [dec_end, cond_false]
theorem to149 (a0 : Row K202) (hs : Small K202 a0) : Ran p 1 149 [.val true ⟨K202, a0⟩] ⟨[⟨K166, a0⟩], []⟩ := go149 fun n hn => Ev.now fun fuel => by
  unfold T149; exact  rfl
theorem to150 (a0 : Row K204) (hs : Small K204 a0) : Ran p 1 150 [.val true ⟨K204, a0⟩] ⟨[⟨K168, a0⟩], []⟩ := go150 fun n hn => Ev.now fun fuel => by
  unfold T150; exact  rfl
theorem eq152 (a0 : Row K166) (hs : Small K166 a0) : Ran p 1 152 [.val true ⟨K166, a0⟩, .val true ⟨K166, a0⟩] ⟨[⟨K4, (true, ())⟩], []⟩ := go152 fun n hn => Ev.now fun fuel => by
  unfold T152; simp only [bne_self_eq_false, beq_self_eq_true, beqB_self, Bool.not_true, cond_false, cond_true]
theorem eq153 (a0 : Row K168) (hs : Small K168 a0) : Ran p 1 153 [.val true ⟨K168, a0⟩, .val true ⟨K168, a0⟩] ⟨[⟨K4, (true, ())⟩], []⟩ := go153 fun n hn => Ev.now fun fuel => by
  unfold T153; simp only [bne_self_eq_false, beq_self_eq_true, beqB_self, Bool.not_true, cond_false, cond_true]
theorem sz35 (a0 : Row K77) (left : Int) (hok : ROkay K77 a0) (h0 : 0 ≤ left) (h1 : left ≤ 1048576) : ∃ r : Int, Ran p 2 35 [.val true ⟨K77, a0⟩, .val false ⟨K3, (left, ())⟩] ⟨[⟨K3, (r, ())⟩], []⟩ ∧ (0 ≤ r → r ≤ left ∧ Small K77 a0) := by
  obtain ⟨r0, f0, g0⟩ := sz78 a0.2 left (rtl hok) (by omega) (by omega)
  by_cases n0 : r0 < 0
  · exact ⟨-1, go35 fun n hn => Ev.now fun fuel => by unfold T35; exact (call_step (f0 n (by omega))).trans <| (bif_pos n0), by omega⟩
  have l0 := (g0 (by omega)).1
  have s1 := shd (g0 (by omega)).2
  have s2 := shd (stl (g0 (by omega)).2)
  have s3 := shd (stl (stl (g0 (by omega)).2))
  have s4 := shd (stl (stl (stl (g0 (by omega)).2)))
  have s5 := shd (stl (stl (stl (stl (g0 (by omega)).2))))
  exact ⟨r0, go35 fun n hn => Ev.now fun fuel => by unfold T35; exact (call_step (f0 n (by omega))).trans <| (bif_neg n0).trans <|  rfl, fun _ => ⟨by omega, (smk trivial (smk s1 (smk s2 (smk s3 (smk s4 (smk s5 trivial))))))⟩⟩
theorem to37 (a0 : Row K77) (hs : Small K77 a0) : Ran p 2 37 [.val true ⟨K77, a0⟩] ⟨[⟨K82, a0⟩], []⟩ := go37 fun n hn => Ev.now fun fuel => by
  unfold T37; exact (call_step (to79 a0.2 (stl hs) n (by omega))).trans <|  rfl
theorem eq39 (a0 : Row K82) (hs : Small K82 a0) : Ran p 2 39 [.val true ⟨K82, a0⟩, .val true ⟨K82, a0⟩] ⟨[⟨K4, (true, ())⟩], []⟩ := go39 fun n hn => Ev.now fun fuel => by
  have f0 := eq80 a0.2 (stl hs) n (by omega)
  unfold T39; simp only [call_step' f0, bne_self_eq_false, beq_self_eq_true, beqB_self, Bool.not_true, cond_false, cond_true]
theorem to58 (a0_0 : List (Row K146)) (hs : Small K52 (a0_0, ())) : Ran p 2 58 [.val false ⟨K52, (a0_0, ())⟩] ⟨[⟨K38, (a0_0, ())⟩], []⟩ := go58 fun n hn => by
  have hl : List.length a0_0 ≤ 1048576 := (ssl hs).1
  refine Ev.eq (fun fuel => by unfold T58; exact bif_and3 (Int.natCast_nonneg _) (Int.ofNat_le.2 (Nat.le_trans hl (by decide))) rfl) ?_
  refine It.ev (c := fun fuel (_ : Unit) => c58_3 (arun p n) fuel a0_0) (i := ()) (r := fun _ => some ⟨[⟨K38, (a0_0, ())⟩], []⟩) ?_ rfl
  refine to_loop (α := Row K94) a0_0 (zeroRow K94) (fun i ys => ((i : Int), ys)) (fun i hi ys hy fuel a rec => ?_) (fun fuel a rec => ?_)
  · have hy' : i < ys.length := by rw [hy]; exact hi
    have hi1 : i < List.length (α := Row K146) a0_0 := hi
    have hb : i < 9223372036854775807 := Nat.lt_of_lt_of_le hi (Nat.le_trans hl (by decide))
    have f := to93 a0_0[i] ((ssl hs).2 i a0_0[i] (at_lt hi)) n (by omega)
    show c58_3 (arun p n) fuel a0_0 rec ((i : Int), ys) = _; unfold c58_3; simp only [dec_lt hi1, dec_nn, Int.toNat_natCast, at_lt hi1, at_lt hy', Option.bind_some, cond_true, call_step' f, wrap_succ hb] <;> rfl
  · show c58_3 (arun p n) fuel a0_0 rec (((List.length a0_0 : Nat) : Int), a0_0) = _; unfold c58_3; simp only [dec_end, cond_false] <;> rfl
theorem eq59 (a0_0 : List (Row K94)) (hs : Small K38 (a0_0, ())) : Ran p 2 59 [.val false ⟨K38, (a0_0, ())⟩, .val false ⟨K38, (a0_0, ())⟩] ⟨[⟨K4, (true, ())⟩], []⟩ := go59 fun n hn => by
  have hl : List.length a0_0 ≤ 1048576 := (ssl hs).1
  refine Ev.eq (fun fuel => by unfold T59; simp only [bne_self_eq_false, cond_false]; rfl) ?_
  refine It.ev (c := fun fuel (_ : Unit) => c59_4 (arun p n) fuel a0_0 a0_0) (i := ()) (r := fun _ => some ⟨[⟨K4, (true, ())⟩], []⟩) ?_ rfl
  refine eq_loop a0_0.length (fun i => (i : Int)) (fun i hi fuel a rec => ?_) (fun fuel a rec => ?_)
  · have f := eq94 a0_0[i] ((ssl hs).2 i a0_0[i] (at_lt hi)) n (by omega)
    show c59_4 (arun p n) fuel a0_0 a0_0 rec (i : Int) = _; unfold c59_4; simp only [dec_lt hi, dec_nn, Int.toNat_natCast, at_lt hi, Option.bind_some, cond_true, cond_false, bne_self_eq_false, Bool.not_true, call_step' f, wrap_succ (show i < 9223372036854775807 by omega)]
  · show c59_4 (arun p n) fuel a0_0 a0_0 rec ((List.length a0_0 : Nat) : Int) = _; unfold c59_4; simp only [dec_end, cond_false]
theorem sz96 (a0 : Row K158) (left : Int) (hok : ROkay K158 a0) (h0 : 0 ≤ left) (h1 : left ≤ 1048576) : ∃ r : Int, Ran p 2 96 [.val true ⟨K158, a0⟩, .val false ⟨K3, (left, ())⟩] ⟨[⟨K3, (r, ())⟩], []⟩ ∧ (0 ≤ r → r ≤ left ∧ Small K158 a0) := by
  obtain ⟨r0, f0, g0⟩ := sz126 (@vL K5 a0.2.1) left (rmk (rhd (rtl hok)) trivial) (by omega) (by omega)
  by_cases n0 : r0 < 0
  · exact ⟨-1, go96 fun n hn => Ev.now fun fuel => by unfold T96; exact (call_step (f0 n (by omega))).trans <| (bif_pos n0), by omega⟩
  have l0 := (g0 (by omega)).1
  have s1 := shd (g0 (by omega)).2
  exact ⟨r0, go96 fun n hn => Ev.now fun fuel => by unfold T96; exact (call_step (f0 n (by omega))).trans <| (bif_neg n0).trans <|  rfl, fun _ => ⟨by omega, (smk trivial (smk s1 (smk trivial trivial)))⟩⟩
theorem to102 (a0 : Row K158) (hs : Small K158 a0) : Ran p 2 102 [.val true ⟨K158, a0⟩] ⟨[⟨K121, a0⟩], []⟩ := go102 fun n hn => Ev.now fun fuel => by
  unfold T102; exact (call_step (to133 (@vL K5 a0.2.1) (smk (shd (stl hs)) trivial) n (by omega))).trans <|  rfl
theorem eq114 (a0 : Row K121) (hs : Small K121 a0) : Ran p 2 114 [.val true ⟨K121, a0⟩, .val true ⟨K121, a0⟩] ⟨[⟨K4, (true, ())⟩], []⟩ := go114 fun n hn => Ev.now fun fuel => by
  have f0 := eq143 (@vL K5 a0.2.1) (smk (shd (stl hs)) trivial) n (by omega)
  unfold T114; simp only [call_step' f0, bne_self_eq_false, beq_self_eq_true, beqB_self, Bool.not_true, cond_false, cond_true]
theorem sz120 (a0 : Row K149) (left : Int) (hok : ROkay K149 a0) (h0 : 0 ≤ left) (h1 : left ≤ 1048576) : ∃ r : Int, Ran p 2 120 [.val true ⟨K149, a0⟩, .val false ⟨K3, (left, ())⟩] ⟨[⟨K3, (r, ())⟩], []⟩ ∧ (0 ≤ r → r ≤ left ∧ Small K149 a0) := by
  obtain ⟨r0, f0, g0⟩ := sz122 (@vL K3 a0.1) left (rmk (rhd hok) trivial) (by omega) (by omega)
  by_cases n0 : r0 < 0
  · exact ⟨-1, go120 fun n hn => Ev.now fun fuel => by unfold T120; exact (call_step (f0 n (by omega))).trans <| (bif_pos n0), by omega⟩
  have l0 := (g0 (by omega)).1
  have s0 := shd (g0 (by omega)).2
  exact ⟨r0, go120 fun n hn => Ev.now fun fuel => by unfold T120; exact (call_step (f0 n (by omega))).trans <| (bif_neg n0).trans <|  rfl, fun _ => ⟨by omega, (smk s0 (smk trivial trivial))⟩⟩
theorem sz123 (a0_0 : List (Row K109)) (left : Int) (hok : ROkay K115 (a0_0, ())) (h0 : 0 ≤ left) (h1 : left ≤ 1048576) : ∃ r : Int, Ran p 2 123 [.val false ⟨K115, (a0_0, ())⟩, .val false ⟨K3, (left, ())⟩] ⟨[⟨K3, (r, ())⟩], []⟩ ∧ (0 ≤ r → r ≤ left ∧ Small K115 (a0_0, ())) := by
  have hl : ((List.length a0_0 : Nat) : Int) ≤ 9223372036854775807 := by have := (rsl hok).1; exact Int.ofNat_le.2 this
  have hw : IntKind.i64.wrap (left - ((List.length a0_0 : Nat) : Int)) = left - ((List.length a0_0 : Nat) : Int) := wrap64 (by omega) (by omega)
  by_cases hn : left - ((List.length a0_0 : Nat) : Int) < 0
  · exact ⟨-1, go123 fun n hn' => Ev.now fun fuel => by unfold T123; rw [hw]; exact bif_pos hn, by omega⟩
  · refine szl_fact (p := p) (lvl := 1) (xs := a0_0) (S := fun r => Small K109 (r.1, ())) (st := fun (i : Nat) (l : Int) => (l, (i : Int))) (W := fun n fuel => T123 (arun p n) fuel a0_0 left) (c := fun n fuel (_ : Unit) => c123_5 (arun p n) fuel a0_0) (l0 := left - ((List.length a0_0 : Nat) : Int)) (f := fun x l => [.val false ⟨K109, (x.1, ())⟩, .val false ⟨K3, (l, ())⟩]) (q := 122) (r0 := fun r => ⟨[⟨K3, (r, ())⟩], []⟩) ?_ ?_ ?_ ?_ (by omega) (by omega) (fun r hr hp => ⟨r, go123 fun n hn => hr n hn, fun h => ⟨by have := (hp h).1; omega, ssm (Int.ofNat_le.1 (by show _ ≤ (1048576 : Int); omega)) fun i r hr => ?_⟩⟩)
    · intro i hi l h2 h3; obtain ⟨r, f, g⟩ := sz122 a0_0[i].1 l ((rsl hok).2 i a0_0[i] (at_lt hi)) h2 h3; exact ⟨r, g, fun n hn => f n (by omega)⟩
    · intro n _ fuel; show T123 (arun p n) fuel a0_0 left = _; unfold T123; rw [hw]; exact bif_neg hn
    · intro n fuel a rec i hi l r hr; replace hr : arun p n 122 [.val false ⟨K109, (a0_0[i].1, ())⟩, .val false ⟨K3, (l, ())⟩] = some ⟨[⟨K3, (r, ())⟩], []⟩ := hr; show c123_5 (arun p n) fuel a0_0 rec (l, (i : Int)) = _; unfold c123_5; simp only [dec_lt hi, dec_nn, Int.toNat_natCast, at_lt hi, Option.bind_some, cond_true, call_step' hr, wrap_succ (show i < 9223372036854775807 by omega)]
    · intro n fuel a rec l; show c123_5 (arun p n) fuel a0_0 rec (l, ((List.length a0_0 : Nat) : Int)) = _; unfold c123_5; simp only [dec_end, cond_false]
    · obtain ⟨hi, rfl⟩ := at_some hr; have := (hp h).2 i hi; exact smk (shd this) trivial
theorem to127 (a0 : Row K149) (hs : Small K149 a0) : Ran p 2 127 [.val true ⟨K149, a0⟩] ⟨[⟨K111, a0⟩], []⟩ := go127 fun n hn => Ev.now fun fuel => by
  unfold T127; exact (call_step (to129 (@vL K3 a0.1) (smk (shd hs) trivial) n (by omega))).trans <|  rfl
theorem to130 (a0_0 : List (Row K109)) (hs : Small K115 (a0_0, ())) : Ran p 2 130 [.val false ⟨K115, (a0_0, ())⟩] ⟨[⟨K115, (a0_0, ())⟩], []⟩ := go130 fun n hn => by
  have hl : List.length a0_0 ≤ 1048576 := (ssl hs).1
  refine Ev.eq (fun fuel => by unfold T130; exact bif_and3 (Int.natCast_nonneg _) (Int.ofNat_le.2 (Nat.le_trans hl (by decide))) rfl) ?_
  refine It.ev (c := fun fuel (_ : Unit) => c130_3 (arun p n) fuel a0_0) (i := ()) (r := fun _ => some ⟨[⟨K115, (a0_0, ())⟩], []⟩) ?_ rfl
  refine to_loop (α := Row K109) a0_0 (zeroRow K109) (fun i ys => ((i : Int), ys)) (fun i hi ys hy fuel a rec => ?_) (fun fuel a rec => ?_)
  · have hy' : i < ys.length := by rw [hy]; exact hi
    have hi1 : i < List.length (α := Row K109) a0_0 := hi
    have hb : i < 9223372036854775807 := Nat.lt_of_lt_of_le hi (Nat.le_trans hl (by decide))
    have f := to129 a0_0[i].1 ((ssl hs).2 i a0_0[i] (at_lt hi)) n (by omega)
    show c130_3 (arun p n) fuel a0_0 rec ((i : Int), ys) = _; unfold c130_3; simp only [dec_lt hi1, dec_nn, Int.toNat_natCast, at_lt hi1, at_lt hy', Option.bind_some, cond_true, call_step' f, wrap_succ hb] <;> rfl
  · show c130_3 (arun p n) fuel a0_0 rec (((List.length a0_0 : Nat) : Int), a0_0) = _; unfold c130_3; simp only [dec_end, cond_false] <;> rfl
theorem to131 (a0_0 : List (Row K202)) (hs : Small K153 (a0_0, ())) : Ran p 2 131 [.val false ⟨K153, (a0_0, ())⟩] ⟨[⟨K116, (a0_0, ())⟩], []⟩ := go131 fun n hn => by
  have hl : List.length a0_0 ≤ 1048576 := (ssl hs).1
  refine Ev.eq (fun fuel => by unfold T131; exact bif_and3 (Int.natCast_nonneg _) (Int.ofNat_le.2 (Nat.le_trans hl (by decide))) rfl) ?_
  refine It.ev (c := fun fuel (_ : Unit) => c131_3 (arun p n) fuel a0_0) (i := ()) (r := fun _ => some ⟨[⟨K116, (a0_0, ())⟩], []⟩) ?_ rfl
  refine to_loop (α := Row K166) a0_0 (zeroRow K166) (fun i ys => ((i : Int), ys)) (fun i hi ys hy fuel a rec => ?_) (fun fuel a rec => ?_)
  · have hy' : i < ys.length := by rw [hy]; exact hi
    have hi1 : i < List.length (α := Row K202) a0_0 := hi
    have hb : i < 9223372036854775807 := Nat.lt_of_lt_of_le hi (Nat.le_trans hl (by decide))
    have f := to149 a0_0[i] ((ssl hs).2 i a0_0[i] (at_lt hi)) n (by omega)
    show c131_3 (arun p n) fuel a0_0 rec ((i : Int), ys) = _; unfold c131_3; simp only [dec_lt hi1, dec_nn, Int.toNat_natCast, at_lt hi1, at_lt hy', Option.bind_some, cond_true, call_step' f, wrap_succ hb] <;> rfl
  · show c131_3 (arun p n) fuel a0_0 rec (((List.length a0_0 : Nat) : Int), a0_0) = _; unfold c131_3; simp only [dec_end, cond_false] <;> rfl
theorem to132 (a0_0 : List (Row K204)) (hs : Small K154 (a0_0, ())) : Ran p 2 132 [.val false ⟨K154, (a0_0, ())⟩] ⟨[⟨K117, (a0_0, ())⟩], []⟩ := go132 fun n hn => by
  have hl : List.length a0_0 ≤ 1048576 := (ssl hs).1
  refine Ev.eq (fun fuel => by unfold T132; exact bif_and3 (Int.natCast_nonneg _) (Int.ofNat_le.2 (Nat.le_trans hl (by decide))) rfl) ?_
  refine It.ev (c := fun fuel (_ : Unit) => c132_3 (arun p n) fuel a0_0) (i := ()) (r := fun _ => some ⟨[⟨K117, (a0_0, ())⟩], []⟩) ?_ rfl
  refine to_loop (α := Row K168) a0_0 (zeroRow K168) (fun i ys => ((i : Int), ys)) (fun i hi ys hy fuel a rec => ?_) (fun fuel a rec => ?_)
  · have hy' : i < ys.length := by rw [hy]; exact hi
    have hi1 : i < List.length (α := Row K204) a0_0 := hi
    have hb : i < 9223372036854775807 := Nat.lt_of_lt_of_le hi (Nat.le_trans hl (by decide))
    have f := to150 a0_0[i] ((ssl hs).2 i a0_0[i] (at_lt hi)) n (by omega)
    show c132_3 (arun p n) fuel a0_0 rec ((i : Int), ys) = _; unfold c132_3; simp only [dec_lt hi1, dec_nn, Int.toNat_natCast, at_lt hi1, at_lt hy', Option.bind_some, cond_true, call_step' f, wrap_succ hb] <;> rfl
  · show c132_3 (arun p n) fuel a0_0 rec (((List.length a0_0 : Nat) : Int), a0_0) = _; unfold c132_3; simp only [dec_end, cond_false] <;> rfl
theorem eq137 (a0 : Row K111) (hs : Small K111 a0) : Ran p 2 137 [.val true ⟨K111, a0⟩, .val true ⟨K111, a0⟩] ⟨[⟨K4, (true, ())⟩], []⟩ := go137 fun n hn => Ev.now fun fuel => by
  have f0 := eq139 (@vL K3 a0.1) (smk (shd hs) trivial) n (by omega)
  unfold T137; simp only [call_step' f0, bne_self_eq_false, beq_self_eq_true, beqB_self, Bool.not_true, cond_false, cond_true]
theorem eq140 (a0_0 : List (Row K109)) (hs : Small K115 (a0_0, ())) : Ran p 2 140 [.val false ⟨K115, (a0_0, ())⟩, .val false ⟨K115, (a0_0, ())⟩] ⟨[⟨K4, (true, ())⟩], []⟩ := go140 fun n hn => by
  have hl : List.length a0_0 ≤ 1048576 := (ssl hs).1
  refine Ev.eq (fun fuel => by unfold T140; simp only [bne_self_eq_false, cond_false]; rfl) ?_
  refine It.ev (c := fun fuel (_ : Unit) => c140_4 (arun p n) fuel a0_0 a0_0) (i := ()) (r := fun _ => some ⟨[⟨K4, (true, ())⟩], []⟩) ?_ rfl
  refine eq_loop a0_0.length (fun i => (i : Int)) (fun i hi fuel a rec => ?_) (fun fuel a rec => ?_)
  · have f := eq139 a0_0[i].1 ((ssl hs).2 i a0_0[i] (at_lt hi)) n (by omega)
    show c140_4 (arun p n) fuel a0_0 a0_0 rec (i : Int) = _; unfold c140_4; simp only [dec_lt hi, dec_nn, Int.toNat_natCast, at_lt hi, Option.bind_some, cond_true, cond_false, bne_self_eq_false, Bool.not_true, call_step' f, wrap_succ (show i < 9223372036854775807 by omega)]
  · show c140_4 (arun p n) fuel a0_0 a0_0 rec ((List.length a0_0 : Nat) : Int) = _; unfold c140_4; simp only [dec_end, cond_false]
theorem eq141 (a0_0 : List (Row K166)) (hs : Small K116 (a0_0, ())) : Ran p 2 141 [.val false ⟨K116, (a0_0, ())⟩, .val false ⟨K116, (a0_0, ())⟩] ⟨[⟨K4, (true, ())⟩], []⟩ := go141 fun n hn => by
  have hl : List.length a0_0 ≤ 1048576 := (ssl hs).1
  refine Ev.eq (fun fuel => by unfold T141; simp only [bne_self_eq_false, cond_false]; rfl) ?_
  refine It.ev (c := fun fuel (_ : Unit) => c141_4 (arun p n) fuel a0_0 a0_0) (i := ()) (r := fun _ => some ⟨[⟨K4, (true, ())⟩], []⟩) ?_ rfl
  refine eq_loop a0_0.length (fun i => (i : Int)) (fun i hi fuel a rec => ?_) (fun fuel a rec => ?_)
  · have f := eq152 a0_0[i] ((ssl hs).2 i a0_0[i] (at_lt hi)) n (by omega)
    show c141_4 (arun p n) fuel a0_0 a0_0 rec (i : Int) = _; unfold c141_4; simp only [dec_lt hi, dec_nn, Int.toNat_natCast, at_lt hi, Option.bind_some, cond_true, cond_false, bne_self_eq_false, Bool.not_true, call_step' f, wrap_succ (show i < 9223372036854775807 by omega)]
  · show c141_4 (arun p n) fuel a0_0 a0_0 rec ((List.length a0_0 : Nat) : Int) = _; unfold c141_4; simp only [dec_end, cond_false]
theorem eq142 (a0_0 : List (Row K168)) (hs : Small K117 (a0_0, ())) : Ran p 2 142 [.val false ⟨K117, (a0_0, ())⟩, .val false ⟨K117, (a0_0, ())⟩] ⟨[⟨K4, (true, ())⟩], []⟩ := go142 fun n hn => by
  have hl : List.length a0_0 ≤ 1048576 := (ssl hs).1
  refine Ev.eq (fun fuel => by unfold T142; simp only [bne_self_eq_false, cond_false]; rfl) ?_
  refine It.ev (c := fun fuel (_ : Unit) => c142_4 (arun p n) fuel a0_0 a0_0) (i := ()) (r := fun _ => some ⟨[⟨K4, (true, ())⟩], []⟩) ?_ rfl
  refine eq_loop a0_0.length (fun i => (i : Int)) (fun i hi fuel a rec => ?_) (fun fuel a rec => ?_)
  · have f := eq153 a0_0[i] ((ssl hs).2 i a0_0[i] (at_lt hi)) n (by omega)
    show c142_4 (arun p n) fuel a0_0 a0_0 rec (i : Int) = _; unfold c142_4; simp only [dec_lt hi, dec_nn, Int.toNat_natCast, at_lt hi, Option.bind_some, cond_true, cond_false, bne_self_eq_false, Bool.not_true, call_step' f, wrap_succ (show i < 9223372036854775807 by omega)]
  · show c142_4 (arun p n) fuel a0_0 a0_0 rec ((List.length a0_0 : Nat) : Int) = _; unfold c142_4; simp only [dec_end, cond_false]
theorem sz7 (a0_0 : List (Row K77)) (left : Int) (hok : ROkay K22 (a0_0, ())) (h0 : 0 ≤ left) (h1 : left ≤ 1048576) : ∃ r : Int, Ran p 3 7 [.val false ⟨K22, (a0_0, ())⟩, .val false ⟨K3, (left, ())⟩] ⟨[⟨K3, (r, ())⟩], []⟩ ∧ (0 ≤ r → r ≤ left ∧ Small K22 (a0_0, ())) := by
  have hl : ((List.length a0_0 : Nat) : Int) ≤ 9223372036854775807 := by have := (rsl hok).1; exact Int.ofNat_le.2 this
  have hw : IntKind.i64.wrap (left - ((List.length a0_0 : Nat) : Int)) = left - ((List.length a0_0 : Nat) : Int) := wrap64 (by omega) (by omega)
  by_cases hn : left - ((List.length a0_0 : Nat) : Int) < 0
  · exact ⟨-1, go7 fun n hn' => Ev.now fun fuel => by unfold T7; rw [hw]; exact bif_pos hn, by omega⟩
  · refine szl_fact (p := p) (lvl := 2) (xs := a0_0) (S := fun r => Small K77 r) (st := fun (i : Nat) (l : Int) => (l, (i : Int))) (W := fun n fuel => T7 (arun p n) fuel a0_0 left) (c := fun n fuel (_ : Unit) => c7_5 (arun p n) fuel a0_0) (l0 := left - ((List.length a0_0 : Nat) : Int)) (f := fun x l => [.val true ⟨K77, x⟩, .val false ⟨K3, (l, ())⟩]) (q := 35) (r0 := fun r => ⟨[⟨K3, (r, ())⟩], []⟩) ?_ ?_ ?_ ?_ (by omega) (by omega) (fun r hr hp => ⟨r, go7 fun n hn => hr n hn, fun h => ⟨by have := (hp h).1; omega, ssm (Int.ofNat_le.1 (by show _ ≤ (1048576 : Int); omega)) fun i r hr => ?_⟩⟩)
    · intro i hi l h2 h3; obtain ⟨r, f, g⟩ := sz35 a0_0[i] l ((rsl hok).2 i a0_0[i] (at_lt hi)) h2 h3; exact ⟨r, g, fun n hn => f n (by omega)⟩
    · intro n _ fuel; show T7 (arun p n) fuel a0_0 left = _; unfold T7; rw [hw]; exact bif_neg hn
    · intro n fuel a rec i hi l r hr; replace hr : arun p n 35 [.val true ⟨K77, a0_0[i]⟩, .val false ⟨K3, (l, ())⟩] = some ⟨[⟨K3, (r, ())⟩], []⟩ := hr; show c7_5 (arun p n) fuel a0_0 rec (l, (i : Int)) = _; unfold c7_5; simp only [dec_lt hi, dec_nn, Int.toNat_natCast, at_lt hi, Option.bind_some, cond_true, call_step' hr, wrap_succ (show i < 9223372036854775807 by omega)]
    · intro n fuel a rec l; show c7_5 (arun p n) fuel a0_0 rec (l, ((List.length a0_0 : Nat) : Int)) = _; unfold c7_5; simp only [dec_end, cond_false]
    · obtain ⟨hi, rfl⟩ := at_some hr; have := (hp h).2 i hi; exact this
theorem to10 (a0_0 : List (Row K77)) (hs : Small K22 (a0_0, ())) : Ran p 3 10 [.val false ⟨K22, (a0_0, ())⟩] ⟨[⟨K26, (a0_0, ())⟩], []⟩ := go10 fun n hn => by
  have hl : List.length a0_0 ≤ 1048576 := (ssl hs).1
  refine Ev.eq (fun fuel => by unfold T10; exact bif_and3 (Int.natCast_nonneg _) (Int.ofNat_le.2 (Nat.le_trans hl (by decide))) rfl) ?_
  refine It.ev (c := fun fuel (_ : Unit) => c10_3 (arun p n) fuel a0_0) (i := ()) (r := fun _ => some ⟨[⟨K26, (a0_0, ())⟩], []⟩) ?_ rfl
  refine to_loop (α := Row K82) a0_0 (zeroRow K82) (fun i ys => ((i : Int), ys)) (fun i hi ys hy fuel a rec => ?_) (fun fuel a rec => ?_)
  · have hy' : i < ys.length := by rw [hy]; exact hi
    have hi1 : i < List.length (α := Row K77) a0_0 := hi
    have hb : i < 9223372036854775807 := Nat.lt_of_lt_of_le hi (Nat.le_trans hl (by decide))
    have f := to37 a0_0[i] ((ssl hs).2 i a0_0[i] (at_lt hi)) n (by omega)
    show c10_3 (arun p n) fuel a0_0 rec ((i : Int), ys) = _; unfold c10_3; simp only [dec_lt hi1, dec_nn, Int.toNat_natCast, at_lt hi1, at_lt hy', Option.bind_some, cond_true, call_step' f, wrap_succ hb] <;> rfl
  · show c10_3 (arun p n) fuel a0_0 rec (((List.length a0_0 : Nat) : Int), a0_0) = _; unfold c10_3; simp only [dec_end, cond_false] <;> rfl
theorem eq13 (a0_0 : List (Row K82)) (hs : Small K26 (a0_0, ())) : Ran p 3 13 [.val false ⟨K26, (a0_0, ())⟩, .val false ⟨K26, (a0_0, ())⟩] ⟨[⟨K4, (true, ())⟩], []⟩ := go13 fun n hn => by
  have hl : List.length a0_0 ≤ 1048576 := (ssl hs).1
  refine Ev.eq (fun fuel => by unfold T13; simp only [bne_self_eq_false, cond_false]; rfl) ?_
  refine It.ev (c := fun fuel (_ : Unit) => c13_4 (arun p n) fuel a0_0 a0_0) (i := ()) (r := fun _ => some ⟨[⟨K4, (true, ())⟩], []⟩) ?_ rfl
  refine eq_loop a0_0.length (fun i => (i : Int)) (fun i hi fuel a rec => ?_) (fun fuel a rec => ?_)
  · have f := eq39 a0_0[i] ((ssl hs).2 i a0_0[i] (at_lt hi)) n (by omega)
    show c13_4 (arun p n) fuel a0_0 a0_0 rec (i : Int) = _; unfold c13_4; simp only [dec_lt hi, dec_nn, Int.toNat_natCast, at_lt hi, Option.bind_some, cond_true, cond_false, bne_self_eq_false, Bool.not_true, call_step' f, wrap_succ (show i < 9223372036854775807 by omega)]
  · show c13_4 (arun p n) fuel a0_0 a0_0 rec ((List.length a0_0 : Nat) : Int) = _; unfold c13_4; simp only [dec_end, cond_false]
theorem sz62 (a0_0 : List (Row K158)) (left : Int) (hok : ROkay K61 (a0_0, ())) (h0 : 0 ≤ left) (h1 : left ≤ 1048576) : ∃ r : Int, Ran p 3 62 [.val false ⟨K61, (a0_0, ())⟩, .val false ⟨K3, (left, ())⟩] ⟨[⟨K3, (r, ())⟩], []⟩ ∧ (0 ≤ r → r ≤ left ∧ Small K61 (a0_0, ())) := by
  have hl : ((List.length a0_0 : Nat) : Int) ≤ 9223372036854775807 := by have := (rsl hok).1; exact Int.ofNat_le.2 this
  have hw : IntKind.i64.wrap (left - ((List.length a0_0 : Nat) : Int)) = left - ((List.length a0_0 : Nat) : Int) := wrap64 (by omega) (by omega)
  by_cases hn : left - ((List.length a0_0 : Nat) : Int) < 0
  · exact ⟨-1, go62 fun n hn' => Ev.now fun fuel => by unfold T62; rw [hw]; exact bif_pos hn, by omega⟩
  · refine szl_fact (p := p) (lvl := 2) (xs := a0_0) (S := fun r => Small K158 r) (st := fun (i : Nat) (l : Int) => (l, (i : Int))) (W := fun n fuel => T62 (arun p n) fuel a0_0 left) (c := fun n fuel (_ : Unit) => c62_5 (arun p n) fuel a0_0) (l0 := left - ((List.length a0_0 : Nat) : Int)) (f := fun x l => [.val true ⟨K158, x⟩, .val false ⟨K3, (l, ())⟩]) (q := 96) (r0 := fun r => ⟨[⟨K3, (r, ())⟩], []⟩) ?_ ?_ ?_ ?_ (by omega) (by omega) (fun r hr hp => ⟨r, go62 fun n hn => hr n hn, fun h => ⟨by have := (hp h).1; omega, ssm (Int.ofNat_le.1 (by show _ ≤ (1048576 : Int); omega)) fun i r hr => ?_⟩⟩)
    · intro i hi l h2 h3; obtain ⟨r, f, g⟩ := sz96 a0_0[i] l ((rsl hok).2 i a0_0[i] (at_lt hi)) h2 h3; exact ⟨r, g, fun n hn => f n (by omega)⟩
    · intro n _ fuel; show T62 (arun p n) fuel a0_0 left = _; unfold T62; rw [hw]; exact bif_neg hn
    · intro n fuel a rec i hi l r hr; replace hr : arun p n 96 [.val true ⟨K158, a0_0[i]⟩, .val false ⟨K3, (l, ())⟩] = some ⟨[⟨K3, (r, ())⟩], []⟩ := hr; show c62_5 (arun p n) fuel a0_0 rec (l, (i : Int)) = _; unfold c62_5; simp only [dec_lt hi, dec_nn, Int.toNat_natCast, at_lt hi, Option.bind_some, cond_true, call_step' hr, wrap_succ (show i < 9223372036854775807 by omega)]
    · intro n fuel a rec l; show c62_5 (arun p n) fuel a0_0 rec (l, ((List.length a0_0 : Nat) : Int)) = _; unfold c62_5; simp only [dec_end, cond_false]
    · obtain ⟨hi, rfl⟩ := at_some hr; have := (hp h).2 i hi; exact this
theorem to67 (a0_0 : List (Row K158)) (hs : Small K61 (a0_0, ())) : Ran p 3 67 [.val false ⟨K61, (a0_0, ())⟩] ⟨[⟨K68, (a0_0, ())⟩], []⟩ := go67 fun n hn => by
  have hl : List.length a0_0 ≤ 1048576 := (ssl hs).1
  refine Ev.eq (fun fuel => by unfold T67; exact bif_and3 (Int.natCast_nonneg _) (Int.ofNat_le.2 (Nat.le_trans hl (by decide))) rfl) ?_
  refine It.ev (c := fun fuel (_ : Unit) => c67_3 (arun p n) fuel a0_0) (i := ()) (r := fun _ => some ⟨[⟨K68, (a0_0, ())⟩], []⟩) ?_ rfl
  refine to_loop (α := Row K121) a0_0 (zeroRow K121) (fun i ys => ((i : Int), ys)) (fun i hi ys hy fuel a rec => ?_) (fun fuel a rec => ?_)
  · have hy' : i < ys.length := by rw [hy]; exact hi
    have hi1 : i < List.length (α := Row K158) a0_0 := hi
    have hb : i < 9223372036854775807 := Nat.lt_of_lt_of_le hi (Nat.le_trans hl (by decide))
    have f := to102 a0_0[i] ((ssl hs).2 i a0_0[i] (at_lt hi)) n (by omega)
    show c67_3 (arun p n) fuel a0_0 rec ((i : Int), ys) = _; unfold c67_3; simp only [dec_lt hi1, dec_nn, Int.toNat_natCast, at_lt hi1, at_lt hy', Option.bind_some, cond_true, call_step' f, wrap_succ hb] <;> rfl
  · show c67_3 (arun p n) fuel a0_0 rec (((List.length a0_0 : Nat) : Int), a0_0) = _; unfold c67_3; simp only [dec_end, cond_false] <;> rfl
theorem eq76 (a0_0 : List (Row K121)) (hs : Small K68 (a0_0, ())) : Ran p 3 76 [.val false ⟨K68, (a0_0, ())⟩, .val false ⟨K68, (a0_0, ())⟩] ⟨[⟨K4, (true, ())⟩], []⟩ := go76 fun n hn => by
  have hl : List.length a0_0 ≤ 1048576 := (ssl hs).1
  refine Ev.eq (fun fuel => by unfold T76; simp only [bne_self_eq_false, cond_false]; rfl) ?_
  refine It.ev (c := fun fuel (_ : Unit) => c76_4 (arun p n) fuel a0_0 a0_0) (i := ()) (r := fun _ => some ⟨[⟨K4, (true, ())⟩], []⟩) ?_ rfl
  refine eq_loop a0_0.length (fun i => (i : Int)) (fun i hi fuel a rec => ?_) (fun fuel a rec => ?_)
  · have f := eq114 a0_0[i] ((ssl hs).2 i a0_0[i] (at_lt hi)) n (by omega)
    show c76_4 (arun p n) fuel a0_0 a0_0 rec (i : Int) = _; unfold c76_4; simp only [dec_lt hi, dec_nn, Int.toNat_natCast, at_lt hi, Option.bind_some, cond_true, cond_false, bne_self_eq_false, Bool.not_true, call_step' f, wrap_succ (show i < 9223372036854775807 by omega)]
  · show c76_4 (arun p n) fuel a0_0 a0_0 rec ((List.length a0_0 : Nat) : Int) = _; unfold c76_4; simp only [dec_end, cond_false]
theorem sz25 (a0 : Row K54) (left : Int) (hok : ROkay K54 a0) (h0 : 0 ≤ left) (h1 : left ≤ 1048576) : ∃ r : Int, Ran p 4 25 [.val true ⟨K54, a0⟩, .val false ⟨K3, (left, ())⟩] ⟨[⟨K3, (r, ())⟩], []⟩ ∧ (0 ≤ r → r ≤ left ∧ Small K54 a0) := by
  obtain ⟨r0, f0, g0⟩ := sz7 (@vL K77 a0.1) left (rmk (rhd hok) trivial) (by omega) (by omega)
  by_cases n0 : r0 < 0
  · exact ⟨-1, go25 fun n hn => Ev.now fun fuel => by unfold T25; exact (call_step (f0 n (by omega))).trans <| (bif_pos n0), by omega⟩
  have l0 := (g0 (by omega)).1
  have s0 := shd (g0 (by omega)).2
  obtain ⟨r1, f1, g1⟩ := sz57 (@vL K146 a0.2.1) r0 (rmk (rhd (rtl hok)) trivial) (by omega) (by omega)
  by_cases n1 : r1 < 0
  · exact ⟨-1, go25 fun n hn => Ev.now fun fuel => by unfold T25; exact (call_step (f0 n (by omega))).trans <| (bif_neg n0).trans <| (call_step (f1 n (by omega))).trans <| (bif_pos n1), by omega⟩
  have l1 := (g1 (by omega)).1
  have s1 := shd (g1 (by omega)).2
  exact ⟨r1, go25 fun n hn => Ev.now fun fuel => by unfold T25; exact (call_step (f0 n (by omega))).trans <| (bif_neg n0).trans <| (call_step (f1 n (by omega))).trans <| (bif_neg n1).trans <|  rfl, fun _ => ⟨by omega, (smk s0 (smk s1 trivial))⟩⟩
theorem to26 (a0 : Row K54) (hs : Small K54 a0) : Ran p 4 26 [.val true ⟨K54, a0⟩] ⟨[⟨K40, a0⟩], []⟩ := go26 fun n hn => Ev.now fun fuel => by
  unfold T26; exact (call_step (to10 (@vL K77 a0.1) (smk (shd hs) trivial) n (by omega))).trans <| (call_step (to58 (@vL K146 a0.2.1) (smk (shd (stl hs)) trivial) n (by omega))).trans <|  rfl
theorem eq27 (a0 : Row K40) (hs : Small K40 a0) : Ran p 4 27 [.val true ⟨K40, a0⟩, .val true ⟨K40, a0⟩] ⟨[⟨K4, (true, ())⟩], []⟩ := go27 fun n hn => Ev.now fun fuel => by
  have f0 := eq13 (@vL K82 a0.1) (smk (shd hs) trivial) n (by omega)
  have f1 := eq59 (@vL K94 a0.2.1) (smk (shd (stl hs)) trivial) n (by omega)
  unfold T27; simp only [call_step' f0, call_step' f1, bne_self_eq_false, beq_self_eq_true, beqB_self, Bool.not_true, cond_false, cond_true]
theorem sz97 (a0 : Row K161) (left : Int) (hok : ROkay K161 a0) (h0 : 0 ≤ left) (h1 : left ≤ 1048576) : ∃ r : Int, Ran p 5 97 [.val true ⟨K161, a0⟩, .val false ⟨K3, (left, ())⟩] ⟨[⟨K3, (r, ())⟩], []⟩ ∧ (0 ≤ r → r ≤ left ∧ Small K161 a0) := by
  obtain ⟨r0, f0, g0⟩ := sz25 a0.2 left (rtl hok) (by omega) (by omega)
  by_cases n0 : r0 < 0
  · exact ⟨-1, go97 fun n hn => Ev.now fun fuel => by unfold T97; exact (call_step (f0 n (by omega))).trans <| (bif_pos n0), by omega⟩
  have l0 := (g0 (by omega)).1
  have s1 := shd (g0 (by omega)).2
  have s2 := shd (stl (g0 (by omega)).2)
  exact ⟨r0, go97 fun n hn => Ev.now fun fuel => by unfold T97; exact (call_step (f0 n (by omega))).trans <| (bif_neg n0).trans <|  rfl, fun _ => ⟨by omega, (smk trivial (smk s1 (smk s2 trivial)))⟩⟩
theorem to103 (a0 : Row K161) (hs : Small K161 a0) : Ran p 5 103 [.val true ⟨K161, a0⟩] ⟨[⟨K123, a0⟩], []⟩ := go103 fun n hn => Ev.now fun fuel => by
  unfold T103; exact (call_step (to26 a0.2 (stl hs) n (by omega))).trans <|  rfl
theorem eq115 (a0 : Row K123) (hs : Small K123 a0) : Ran p 5 115 [.val true ⟨K123, a0⟩, .val true ⟨K123, a0⟩] ⟨[⟨K4, (true, ())⟩], []⟩ := go115 fun n hn => Ev.now fun fuel => by
  have f0 := eq27 a0.2 (stl hs) n (by omega)
  unfold T115; simp only [call_step' f0, bne_self_eq_false, beq_self_eq_true, beqB_self, Bool.not_true, cond_false, cond_true]
theorem sz147 (a0_0 : List (Row K54)) (left : Int) (hok : ROkay K150 (a0_0, ())) (h0 : 0 ≤ left) (h1 : left ≤ 1048576) : ∃ r : Int, Ran p 5 147 [.val false ⟨K150, (a0_0, ())⟩, .val false ⟨K3, (left, ())⟩] ⟨[⟨K3, (r, ())⟩], []⟩ ∧ (0 ≤ r → r ≤ left ∧ Small K150 (a0_0, ())) := by
  have hl : ((List.length a0_0 : Nat) : Int) ≤ 9223372036854775807 := by have := (rsl hok).1; exact Int.ofNat_le.2 this
  have hw : IntKind.i64.wrap (left - ((List.length a0_0 : Nat) : Int)) = left - ((List.length a0_0 : Nat) : Int) := wrap64 (by omega) (by omega)
  by_cases hn : left - ((List.length a0_0 : Nat) : Int) < 0
  · exact ⟨-1, go147 fun n hn' => Ev.now fun fuel => by unfold T147; rw [hw]; exact bif_pos hn, by omega⟩
  · refine szl_fact (p := p) (lvl := 4) (xs := a0_0) (S := fun r => Small K54 r) (st := fun (i : Nat) (l : Int) => (l, (i : Int))) (W := fun n fuel => T147 (arun p n) fuel a0_0 left) (c := fun n fuel (_ : Unit) => c147_5 (arun p n) fuel a0_0) (l0 := left - ((List.length a0_0 : Nat) : Int)) (f := fun x l => [.val true ⟨K54, x⟩, .val false ⟨K3, (l, ())⟩]) (q := 25) (r0 := fun r => ⟨[⟨K3, (r, ())⟩], []⟩) ?_ ?_ ?_ ?_ (by omega) (by omega) (fun r hr hp => ⟨r, go147 fun n hn => hr n hn, fun h => ⟨by have := (hp h).1; omega, ssm (Int.ofNat_le.1 (by show _ ≤ (1048576 : Int); omega)) fun i r hr => ?_⟩⟩)
    · intro i hi l h2 h3; obtain ⟨r, f, g⟩ := sz25 a0_0[i] l ((rsl hok).2 i a0_0[i] (at_lt hi)) h2 h3; exact ⟨r, g, fun n hn => f n (by omega)⟩
    · intro n _ fuel; show T147 (arun p n) fuel a0_0 left = _; unfold T147; rw [hw]; exact bif_neg hn
    · intro n fuel a rec i hi l r hr; replace hr : arun p n 25 [.val true ⟨K54, a0_0[i]⟩, .val false ⟨K3, (l, ())⟩] = some ⟨[⟨K3, (r, ())⟩], []⟩ := hr; show c147_5 (arun p n) fuel a0_0 rec (l, (i : Int)) = _; unfold c147_5; simp only [dec_lt hi, dec_nn, Int.toNat_natCast, at_lt hi, Option.bind_some, cond_true, call_step' hr, wrap_succ (show i < 9223372036854775807 by omega)]
    · intro n fuel a rec l; show c147_5 (arun p n) fuel a0_0 rec (l, ((List.length a0_0 : Nat) : Int)) = _; unfold c147_5; simp only [dec_end, cond_false]
    · obtain ⟨hi, rfl⟩ := at_some hr; have := (hp h).2 i hi; exact this
theorem to148 (a0_0 : List (Row K54)) (hs : Small K150 (a0_0, ())) : Ran p 5 148 [.val false ⟨K150, (a0_0, ())⟩] ⟨[⟨K112, (a0_0, ())⟩], []⟩ := go148 fun n hn => by
  have hl : List.length a0_0 ≤ 1048576 := (ssl hs).1
  refine Ev.eq (fun fuel => by unfold T148; exact bif_and3 (Int.natCast_nonneg _) (Int.ofNat_le.2 (Nat.le_trans hl (by decide))) rfl) ?_
  refine It.ev (c := fun fuel (_ : Unit) => c148_3 (arun p n) fuel a0_0) (i := ()) (r := fun _ => some ⟨[⟨K112, (a0_0, ())⟩], []⟩) ?_ rfl
  refine to_loop (α := Row K40) a0_0 (zeroRow K40) (fun i ys => ((i : Int), ys)) (fun i hi ys hy fuel a rec => ?_) (fun fuel a rec => ?_)
  · have hy' : i < ys.length := by rw [hy]; exact hi
    have hi1 : i < List.length (α := Row K54) a0_0 := hi
    have hb : i < 9223372036854775807 := Nat.lt_of_lt_of_le hi (Nat.le_trans hl (by decide))
    have f := to26 a0_0[i] ((ssl hs).2 i a0_0[i] (at_lt hi)) n (by omega)
    show c148_3 (arun p n) fuel a0_0 rec ((i : Int), ys) = _; unfold c148_3; simp only [dec_lt hi1, dec_nn, Int.toNat_natCast, at_lt hi1, at_lt hy', Option.bind_some, cond_true, call_step' f, wrap_succ hb] <;> rfl
  · show c148_3 (arun p n) fuel a0_0 rec (((List.length a0_0 : Nat) : Int), a0_0) = _; unfold c148_3; simp only [dec_end, cond_false] <;> rfl
theorem eq151 (a0_0 : List (Row K40)) (hs : Small K112 (a0_0, ())) : Ran p 5 151 [.val false ⟨K112, (a0_0, ())⟩, .val false ⟨K112, (a0_0, ())⟩] ⟨[⟨K4, (true, ())⟩], []⟩ := go151 fun n hn => by
  have hl : List.length a0_0 ≤ 1048576 := (ssl hs).1
  refine Ev.eq (fun fuel => by unfold T151; simp only [bne_self_eq_false, cond_false]; rfl) ?_
  refine It.ev (c := fun fuel (_ : Unit) => c151_4 (arun p n) fuel a0_0 a0_0) (i := ()) (r := fun _ => some ⟨[⟨K4, (true, ())⟩], []⟩) ?_ rfl
  refine eq_loop a0_0.length (fun i => (i : Int)) (fun i hi fuel a rec => ?_) (fun fuel a rec => ?_)
  · have f := eq27 a0_0[i] ((ssl hs).2 i a0_0[i] (at_lt hi)) n (by omega)
    show c151_4 (arun p n) fuel a0_0 a0_0 rec (i : Int) = _; unfold c151_4; simp only [dec_lt hi, dec_nn, Int.toNat_natCast, at_lt hi, Option.bind_some, cond_true, cond_false, bne_self_eq_false, Bool.not_true, call_step' f, wrap_succ (show i < 9223372036854775807 by omega)]
  · show c151_4 (arun p n) fuel a0_0 a0_0 rec ((List.length a0_0 : Nat) : Int) = _; unfold c151_4; simp only [dec_end, cond_false]
theorem sz63 (a0_0 : List (Row K161)) (left : Int) (hok : ROkay K62 (a0_0, ())) (h0 : 0 ≤ left) (h1 : left ≤ 1048576) : ∃ r : Int, Ran p 6 63 [.val false ⟨K62, (a0_0, ())⟩, .val false ⟨K3, (left, ())⟩] ⟨[⟨K3, (r, ())⟩], []⟩ ∧ (0 ≤ r → r ≤ left ∧ Small K62 (a0_0, ())) := by
  have hl : ((List.length a0_0 : Nat) : Int) ≤ 9223372036854775807 := by have := (rsl hok).1; exact Int.ofNat_le.2 this
  have hw : IntKind.i64.wrap (left - ((List.length a0_0 : Nat) : Int)) = left - ((List.length a0_0 : Nat) : Int) := wrap64 (by omega) (by omega)
  by_cases hn : left - ((List.length a0_0 : Nat) : Int) < 0
  · exact ⟨-1, go63 fun n hn' => Ev.now fun fuel => by unfold T63; rw [hw]; exact bif_pos hn, by omega⟩
  · refine szl_fact (p := p) (lvl := 5) (xs := a0_0) (S := fun r => Small K161 r) (st := fun (i : Nat) (l : Int) => (l, (i : Int))) (W := fun n fuel => T63 (arun p n) fuel a0_0 left) (c := fun n fuel (_ : Unit) => c63_5 (arun p n) fuel a0_0) (l0 := left - ((List.length a0_0 : Nat) : Int)) (f := fun x l => [.val true ⟨K161, x⟩, .val false ⟨K3, (l, ())⟩]) (q := 97) (r0 := fun r => ⟨[⟨K3, (r, ())⟩], []⟩) ?_ ?_ ?_ ?_ (by omega) (by omega) (fun r hr hp => ⟨r, go63 fun n hn => hr n hn, fun h => ⟨by have := (hp h).1; omega, ssm (Int.ofNat_le.1 (by show _ ≤ (1048576 : Int); omega)) fun i r hr => ?_⟩⟩)
    · intro i hi l h2 h3; obtain ⟨r, f, g⟩ := sz97 a0_0[i] l ((rsl hok).2 i a0_0[i] (at_lt hi)) h2 h3; exact ⟨r, g, fun n hn => f n (by omega)⟩
    · intro n _ fuel; show T63 (arun p n) fuel a0_0 left = _; unfold T63; rw [hw]; exact bif_neg hn
    · intro n fuel a rec i hi l r hr; replace hr : arun p n 97 [.val true ⟨K161, a0_0[i]⟩, .val false ⟨K3, (l, ())⟩] = some ⟨[⟨K3, (r, ())⟩], []⟩ := hr; show c63_5 (arun p n) fuel a0_0 rec (l, (i : Int)) = _; unfold c63_5; simp only [dec_lt hi, dec_nn, Int.toNat_natCast, at_lt hi, Option.bind_some, cond_true, call_step' hr, wrap_succ (show i < 9223372036854775807 by omega)]
    · intro n fuel a rec l; show c63_5 (arun p n) fuel a0_0 rec (l, ((List.length a0_0 : Nat) : Int)) = _; unfold c63_5; simp only [dec_end, cond_false]
    · obtain ⟨hi, rfl⟩ := at_some hr; have := (hp h).2 i hi; exact this
theorem to68 (a0_0 : List (Row K161)) (hs : Small K62 (a0_0, ())) : Ran p 6 68 [.val false ⟨K62, (a0_0, ())⟩] ⟨[⟨K69, (a0_0, ())⟩], []⟩ := go68 fun n hn => by
  have hl : List.length a0_0 ≤ 1048576 := (ssl hs).1
  refine Ev.eq (fun fuel => by unfold T68; exact bif_and3 (Int.natCast_nonneg _) (Int.ofNat_le.2 (Nat.le_trans hl (by decide))) rfl) ?_
  refine It.ev (c := fun fuel (_ : Unit) => c68_3 (arun p n) fuel a0_0) (i := ()) (r := fun _ => some ⟨[⟨K69, (a0_0, ())⟩], []⟩) ?_ rfl
  refine to_loop (α := Row K123) a0_0 (zeroRow K123) (fun i ys => ((i : Int), ys)) (fun i hi ys hy fuel a rec => ?_) (fun fuel a rec => ?_)
  · have hy' : i < ys.length := by rw [hy]; exact hi
    have hi1 : i < List.length (α := Row K161) a0_0 := hi
    have hb : i < 9223372036854775807 := Nat.lt_of_lt_of_le hi (Nat.le_trans hl (by decide))
    have f := to103 a0_0[i] ((ssl hs).2 i a0_0[i] (at_lt hi)) n (by omega)
    show c68_3 (arun p n) fuel a0_0 rec ((i : Int), ys) = _; unfold c68_3; simp only [dec_lt hi1, dec_nn, Int.toNat_natCast, at_lt hi1, at_lt hy', Option.bind_some, cond_true, call_step' f, wrap_succ hb] <;> rfl
  · show c68_3 (arun p n) fuel a0_0 rec (((List.length a0_0 : Nat) : Int), a0_0) = _; unfold c68_3; simp only [dec_end, cond_false] <;> rfl
theorem eq77 (a0_0 : List (Row K123)) (hs : Small K69 (a0_0, ())) : Ran p 6 77 [.val false ⟨K69, (a0_0, ())⟩, .val false ⟨K69, (a0_0, ())⟩] ⟨[⟨K4, (true, ())⟩], []⟩ := go77 fun n hn => by
  have hl : List.length a0_0 ≤ 1048576 := (ssl hs).1
  refine Ev.eq (fun fuel => by unfold T77; simp only [bne_self_eq_false, cond_false]; rfl) ?_
  refine It.ev (c := fun fuel (_ : Unit) => c77_4 (arun p n) fuel a0_0 a0_0) (i := ()) (r := fun _ => some ⟨[⟨K4, (true, ())⟩], []⟩) ?_ rfl
  refine eq_loop a0_0.length (fun i => (i : Int)) (fun i hi fuel a rec => ?_) (fun fuel a rec => ?_)
  · have f := eq115 a0_0[i] ((ssl hs).2 i a0_0[i] (at_lt hi)) n (by omega)
    show c77_4 (arun p n) fuel a0_0 a0_0 rec (i : Int) = _; unfold c77_4; simp only [dec_lt hi, dec_nn, Int.toNat_natCast, at_lt hi, Option.bind_some, cond_true, cond_false, bne_self_eq_false, Bool.not_true, call_step' f, wrap_succ (show i < 9223372036854775807 by omega)]
  · show c77_4 (arun p n) fuel a0_0 a0_0 rec ((List.length a0_0 : Nat) : Int) = _; unfold c77_4; simp only [dec_end, cond_false]
theorem sz121 (a0 : Row K152) (left : Int) (hok : ROkay K152 a0) (h0 : 0 ≤ left) (h1 : left ≤ 1048576) : ∃ r : Int, Ran p 6 121 [.val true ⟨K152, a0⟩, .val false ⟨K3, (left, ())⟩] ⟨[⟨K3, (r, ())⟩], []⟩ ∧ (0 ≤ r → r ≤ left ∧ Small K152 a0) := by
  obtain ⟨r0, f0, g0⟩ := sz147 (@vL K54 a0.2.2.1) left (rmk (rhd (rtl (rtl hok))) trivial) (by omega) (by omega)
  by_cases n0 : r0 < 0
  · exact ⟨-1, go121 fun n hn => Ev.now fun fuel => by unfold T121; exact (call_step (f0 n (by omega))).trans <| (bif_pos n0), by omega⟩
  have l0 := (g0 (by omega)).1
  have s2 := shd (g0 (by omega)).2
  exact ⟨r0, go121 fun n hn => Ev.now fun fuel => by unfold T121; exact (call_step (f0 n (by omega))).trans <| (bif_neg n0).trans <|  rfl, fun _ => ⟨by omega, (smk trivial (smk trivial (smk s2 trivial)))⟩⟩
theorem to128 (a0 : Row K152) (hs : Small K152 a0) : Ran p 6 128 [.val true ⟨K152, a0⟩] ⟨[⟨K114, a0⟩], []⟩ := go128 fun n hn => Ev.now fun fuel => by
  unfold T128; exact (call_step (to148 (@vL K54 a0.2.2.1) (smk (shd (stl (stl hs))) trivial) n (by omega))).trans <|  rfl
theorem eq138 (a0 : Row K114) (hs : Small K114 a0) : Ran p 6 138 [.val true ⟨K114, a0⟩, .val true ⟨K114, a0⟩] ⟨[⟨K4, (true, ())⟩], []⟩ := go138 fun n hn => Ev.now fun fuel => by
  have f0 := eq151 (@vL K40 a0.2.2.1) (smk (shd (stl (stl hs))) trivial) n (by omega)
  unfold T138; simp only [call_step' f0, bne_self_eq_false, beq_self_eq_true, beqB_self, Bool.not_true, cond_false, cond_true]
theorem sz95 (a0 : Row K156) (left : Int) (hok : ROkay K156 a0) (h0 : 0 ≤ left) (h1 : left ≤ 1048576) : ∃ r : Int, Ran p 7 95 [.val true ⟨K156, a0⟩, .val false ⟨K3, (left, ())⟩] ⟨[⟨K3, (r, ())⟩], []⟩ ∧ (0 ≤ r → r ≤ left ∧ Small K156 a0) := by
  obtain ⟨r0, f0, g0⟩ := sz25 ((@vL K77 a0.2.2.1), (@vL K146 a0.2.2.2.1), ()) left (rmk (rhd (rtl (rtl hok))) (rmk (rhd (rtl (rtl (rtl hok)))) trivial)) (by omega) (by omega)
  by_cases n0 : r0 < 0
  · exact ⟨-1, go95 fun n hn => Ev.now fun fuel => by unfold T95; exact (call_step (f0 n (by omega))).trans <| (bif_pos n0), by omega⟩
  have l0 := (g0 (by omega)).1
  have s2 := shd (g0 (by omega)).2
  have s3 := shd (stl (g0 (by omega)).2)
  obtain ⟨r1, f1, g1⟩ := sz120 ((@vL K3 a0.2.2.2.2.1), (vI a0.2.2.2.2.2.1), ()) r0 (rmk (rhd (rtl (rtl (rtl (rtl hok))))) (rmk (rhd (rtl (rtl (rtl (rtl (rtl hok)))))) trivial)) (by omega) (by omega)
  by_cases n1 : r1 < 0
  · exact ⟨-1, go95 fun n hn => Ev.now fun fuel => by unfold T95; exact (call_step (f0 n (by omega))).trans <| (bif_neg n0).trans <| (call_step (f1 n (by omega))).trans <| (bif_pos n1), by omega⟩
  have l1 := (g1 (by omega)).1
  have s4 := shd (g1 (by omega)).2
  have s5 := shd (stl (g1 (by omega)).2)
  obtain ⟨r2, f2, g2⟩ := sz121 ((vI a0.2.2.2.2.2.2.1), (vI a0.2.2.2.2.2.2.2.1), (@vL K54 a0.2.2.2.2.2.2.2.2.1), ()) r1 (rmk (rhd (rtl (rtl (rtl (rtl (rtl (rtl hok))))))) (rmk (rhd (rtl (rtl (rtl (rtl (rtl (rtl (rtl hok)))))))) (rmk (rhd (rtl (rtl (rtl (rtl (rtl (rtl (rtl (rtl hok))))))))) trivial))) (by omega) (by omega)
  by_cases n2 : r2 < 0
  · exact ⟨-1, go95 fun n hn => Ev.now fun fuel => by unfold T95; exact (call_step (f0 n (by omega))).trans <| (bif_neg n0).trans <| (call_step (f1 n (by omega))).trans <| (bif_neg n1).trans <| (call_step (f2 n (by omega))).trans <| (bif_pos n2), by omega⟩
  have l2 := (g2 (by omega)).1
  have s6 := shd (g2 (by omega)).2
  have s7 := shd (stl (g2 (by omega)).2)
  have s8 := shd (stl (stl (g2 (by omega)).2))
  obtain ⟨r3, f3, g3⟩ := sz122 (@vL K3 a0.2.2.2.2.2.2.2.2.2.1) r2 (rmk (rhd (rtl (rtl (rtl (rtl (rtl (rtl (rtl (rtl (rtl hok)))))))))) trivial) (by omega) (by omega)
  by_cases n3 : r3 < 0
  · exact ⟨-1, go95 fun n hn => Ev.now fun fuel => by unfold T95; exact (call_step (f0 n (by omega))).trans <| (bif_neg n0).trans <| (call_step (f1 n (by omega))).trans <| (bif_neg n1).trans <| (call_step (f2 n (by omega))).trans <| (bif_neg n2).trans <| (call_step (f3 n (by omega))).trans <| (bif_pos n3), by omega⟩
  have l3 := (g3 (by omega)).1
  have s9 := shd (g3 (by omega)).2
  obtain ⟨r4, f4, g4⟩ := sz122 (@vL K3 a0.2.2.2.2.2.2.2.2.2.2.1) r3 (rmk (rhd (rtl (rtl (rtl (rtl (rtl (rtl (rtl (rtl (rtl (rtl hok))))))))))) trivial) (by omega) (by omega)
  by_cases n4 : r4 < 0
  · exact ⟨-1, go95 fun n hn => Ev.now fun fuel => by unfold T95; exact (call_step (f0 n (by omega))).trans <| (bif_neg n0).trans <| (call_step (f1 n (by omega))).trans <| (bif_neg n1).trans <| (call_step (f2 n (by omega))).trans <| (bif_neg n2).trans <| (call_step (f3 n (by omega))).trans <| (bif_neg n3).trans <| (call_step (f4 n (by omega))).trans <| (bif_pos n4), by omega⟩
  have l4 := (g4 (by omega)).1
  have s10 := shd (g4 (by omega)).2
  obtain ⟨r5, f5, g5⟩ := sz123 (@vL K109 a0.2.2.2.2.2.2.2.2.2.2.2.1) r4 (rmk (rhd (rtl (rtl (rtl (rtl (rtl (rtl (rtl (rtl (rtl (rtl (rtl hok)))))))))))) trivial) (by omega) (by omega)
  by_cases n5 : r5 < 0
  · exact ⟨-1, go95 fun n hn => Ev.now fun fuel => by unfold T95; exact (call_step (f0 n (by omega))).trans <| (bif_neg n0).trans <| (call_step (f1 n (by omega))).trans <| (bif_neg n1).trans <| (call_step (f2 n (by omega))).trans <| (bif_neg n2).trans <| (call_step (f3 n (by omega))).trans <| (bif_neg n3).trans <| (call_step (f4 n (by omega))).trans <| (bif_neg n4).trans <| (call_step (f5 n (by omega))).trans <| (bif_pos n5), by omega⟩
  have l5 := (g5 (by omega)).1
  have s11 := shd (g5 (by omega)).2
  obtain ⟨r6, f6, g6⟩ := sz124 (@vL K202 a0.2.2.2.2.2.2.2.2.2.2.2.2.2.2.1) r5 (rmk (rhd (rtl (rtl (rtl (rtl (rtl (rtl (rtl (rtl (rtl (rtl (rtl (rtl (rtl (rtl hok))))))))))))))) trivial) (by omega) (by omega)
  by_cases n6 : r6 < 0
  · exact ⟨-1, go95 fun n hn => Ev.now fun fuel => by unfold T95; exact (call_step (f0 n (by omega))).trans <| (bif_neg n0).trans <| (call_step (f1 n (by omega))).trans <| (bif_neg n1).trans <| (call_step (f2 n (by omega))).trans <| (bif_neg n2).trans <| (call_step (f3 n (by omega))).trans <| (bif_neg n3).trans <| (call_step (f4 n (by omega))).trans <| (bif_neg n4).trans <| (call_step (f5 n (by omega))).trans <| (bif_neg n5).trans <| (call_step (f6 n (by omega))).trans <| (bif_pos n6), by omega⟩
  have l6 := (g6 (by omega)).1
  have s14 := shd (g6 (by omega)).2
  obtain ⟨r7, f7, g7⟩ := sz125 (@vL K204 a0.2.2.2.2.2.2.2.2.2.2.2.2.2.2.2.2.2.2.1) r6 (rmk (rhd (rtl (rtl (rtl (rtl (rtl (rtl (rtl (rtl (rtl (rtl (rtl (rtl (rtl (rtl (rtl (rtl (rtl (rtl hok))))))))))))))))))) trivial) (by omega) (by omega)
  by_cases n7 : r7 < 0
  · exact ⟨-1, go95 fun n hn => Ev.now fun fuel => by unfold T95; exact (call_step (f0 n (by omega))).trans <| (bif_neg n0).trans <| (call_step (f1 n (by omega))).trans <| (bif_neg n1).trans <| (call_step (f2 n (by omega))).trans <| (bif_neg n2).trans <| (call_step (f3 n (by omega))).trans <| (bif_neg n3).trans <| (call_step (f4 n (by omega))).trans <| (bif_neg n4).trans <| (call_step (f5 n (by omega))).trans <| (bif_neg n5).trans <| (call_step (f6 n (by omega))).trans <| (bif_neg n6).trans <| (call_step (f7 n (by omega))).trans <| (bif_pos n7), by omega⟩
  have l7 := (g7 (by omega)).1
  have s18 := shd (g7 (by omega)).2
  exact ⟨r7, go95 fun n hn => Ev.now fun fuel => by unfold T95; exact (call_step (f0 n (by omega))).trans <| (bif_neg n0).trans <| (call_step (f1 n (by omega))).trans <| (bif_neg n1).trans <| (call_step (f2 n (by omega))).trans <| (bif_neg n2).trans <| (call_step (f3 n (by omega))).trans <| (bif_neg n3).trans <| (call_step (f4 n (by omega))).trans <| (bif_neg n4).trans <| (call_step (f5 n (by omega))).trans <| (bif_neg n5).trans <| (call_step (f6 n (by omega))).trans <| (bif_neg n6).trans <| (call_step (f7 n (by omega))).trans <| (bif_neg n7).trans <|  rfl, fun _ => ⟨by omega, (smk trivial (smk trivial (smk s2 (smk s3 (smk s4 (smk s5 (smk s6 (smk s7 (smk s8 (smk s9 (smk s10 (smk s11 (smk trivial (smk trivial (smk s14 (smk trivial (smk trivial (smk trivial (smk s18 trivial)))))))))))))))))))⟩⟩
theorem to101 (a0 : Row K156) (hs : Small K156 a0) : Ran p 7 101 [.val true ⟨K156, a0⟩] ⟨[⟨K119, a0⟩], []⟩ := go101 fun n hn => Ev.now fun fuel => by
  unfold T101; exact (call_step (to26 ((@vL K77 a0.2.2.1), (@vL K146 a0.2.2.2.1), ()) (smk (shd (stl (stl hs))) (smk (shd (stl (stl (stl hs)))) trivial)) n (by omega))).trans <| (call_step (to127 ((@vL K3 a0.2.2.2.2.1), (vI a0.2.2.2.2.2.1), ()) (smk (shd (stl (stl (stl (stl hs))))) (smk (shd (stl (stl (stl (stl (stl hs)))))) trivial)) n (by omega))).trans <| (call_step (to128 ((vI a0.2.2.2.2.2.2.1), (vI a0.2.2.2.2.2.2.2.1), (@vL K54 a0.2.2.2.2.2.2.2.2.1), ()) (smk (shd (stl (stl (stl (stl (stl (stl hs))))))) (smk (shd (stl (stl (stl (stl (stl (stl (stl hs)))))))) (smk (shd (stl (stl (stl (stl (stl (stl (stl (stl hs))))))))) trivial))) n (by omega))).trans <| (call_step (to129 (@vL K3 a0.2.2.2.2.2.2.2.2.2.1) (smk (shd (stl (stl (stl (stl (stl (stl (stl (stl (stl hs)))))))))) trivial) n (by omega))).trans <| (call_step (to129 (@vL K3 a0.2.2.2.2.2.2.2.2.2.2.1) (smk (shd (stl (stl (stl (stl (stl (stl (stl (stl (stl (stl hs))))))))))) trivial) n (by omega))).trans <| (call_step (to130 (@vL K109 a0.2.2.2.2.2.2.2.2.2.2.2.1) (smk (shd (stl (stl (stl (stl (stl (stl (stl (stl (stl (stl (stl hs)))))))))))) trivial) n (by omega))).trans <| (call_step (to131 (@vL K202 a0.2.2.2.2.2.2.2.2.2.2.2.2.2.2.1) (smk (shd (stl (stl (stl (stl (stl (stl (stl (stl (stl (stl (stl (stl (stl (stl hs))))))))))))))) trivial) n (by omega))).trans <| (call_step (to132 (@vL K204 a0.2.2.2.2.2.2.2.2.2.2.2.2.2.2.2.2.2.2.1) (smk (shd (stl (stl (stl (stl (stl (stl (stl (stl (stl (stl (stl (stl (stl (stl (stl (stl (stl (stl hs))))))))))))))))))) trivial) n (by omega))).trans <|  rfl
theorem eq113 (a0 : Row K119) (hs : Small K119 a0) : Ran p 7 113 [.val true ⟨K119, a0⟩, .val true ⟨K119, a0⟩] ⟨[⟨K4, (true, ())⟩], []⟩ := go113 fun n hn => Ev.now fun fuel => by
  have f0 := eq27 ((@vL K82 a0.2.2.1), (@vL K94 a0.2.2.2.1), ()) (smk (shd (stl (stl hs))) (smk (shd (stl (stl (stl hs)))) trivial)) n (by omega)
  have f1 := eq137 ((@vL K3 a0.2.2.2.2.1), (vI a0.2.2.2.2.2.1), ()) (smk (shd (stl (stl (stl (stl hs))))) (smk (shd (stl (stl (stl (stl (stl hs)))))) trivial)) n (by omega)
  have f2 := eq138 ((vI a0.2.2.2.2.2.2.1), (vI a0.2.2.2.2.2.2.2.1), (@vL K40 a0.2.2.2.2.2.2.2.2.1), ()) (smk (shd (stl (stl (stl (stl (stl (stl hs))))))) (smk (shd (stl (stl (stl (stl (stl (stl (stl hs)))))))) (smk (shd (stl (stl (stl (stl (stl (stl (stl (stl hs))))))))) trivial))) n (by omega)
  have f3 := eq139 (@vL K3 a0.2.2.2.2.2.2.2.2.2.1) (smk (shd (stl (stl (stl (stl (stl (stl (stl (stl (stl hs)))))))))) trivial) n (by omega)
  have f4 := eq139 (@vL K3 a0.2.2.2.2.2.2.2.2.2.2.1) (smk (shd (stl (stl (stl (stl (stl (stl (stl (stl (stl (stl hs))))))))))) trivial) n (by omega)
  have f5 := eq140 (@vL K109 a0.2.2.2.2.2.2.2.2.2.2.2.1) (smk (shd (stl (stl (stl (stl (stl (stl (stl (stl (stl (stl (stl hs)))))))))))) trivial) n (by omega)
  have f6 := eq141 (@vL K166 a0.2.2.2.2.2.2.2.2.2.2.2.2.2.2.1) (smk (shd (stl (stl (stl (stl (stl (stl (stl (stl (stl (stl (stl (stl (stl (stl hs))))))))))))))) trivial) n (by omega)
  have f7 := eq142 (@vL K168 a0.2.2.2.2.2.2.2.2.2.2.2.2.2.2.2.2.2.2.1) (smk (shd (stl (stl (stl (stl (stl (stl (stl (stl (stl (stl (stl (stl (stl (stl (stl (stl (stl (stl hs))))))))))))))))))) trivial) n (by omega)
  unfold T113; simp only [call_step' f0, call_step' f1, call_step' f2, call_step' f3, call_step' f4, call_step' f5, call_step' f6, call_step' f7, bne_self_eq_false, beq_self_eq_true, beqB_self, Bool.not_true, cond_false, cond_true]
theorem sz61 (a0_0 : List (Row K156)) (left : Int) (hok : ROkay K60 (a0_0, ())) (h0 : 0 ≤ left) (h1 : left ≤ 1048576) : ∃ r : Int, Ran p 8 61 [.val false ⟨K60, (a0_0, ())⟩, .val false ⟨K3, (left, ())⟩] ⟨[⟨K3, (r, ())⟩], []⟩ ∧ (0 ≤ r → r ≤ left ∧ Small K60 (a0_0, ())) := by
  have hl : ((List.length a0_0 : Nat) : Int) ≤ 9223372036854775807 := by have := (rsl hok).1; exact Int.ofNat_le.2 this
  have hw : IntKind.i64.wrap (left - ((List.length a0_0 : Nat) : Int)) = left - ((List.length a0_0 : Nat) : Int) := wrap64 (by omega) (by omega)
  by_cases hn : left - ((List.length a0_0 : Nat) : Int) < 0
  · exact ⟨-1, go61 fun n hn' => Ev.now fun fuel => by unfold T61; rw [hw]; exact bif_pos hn, by omega⟩
  · refine szl_fact (p := p) (lvl := 7) (xs := a0_0) (S := fun r => Small K156 r) (st := fun (i : Nat) (l : Int) => (l, (i : Int))) (W := fun n fuel => T61 (arun p n) fuel a0_0 left) (c := fun n fuel (_ : Unit) => c61_5 (arun p n) fuel a0_0) (l0 := left - ((List.length a0_0 : Nat) : Int)) (f := fun x l => [.val true ⟨K156, x⟩, .val false ⟨K3, (l, ())⟩]) (q := 95) (r0 := fun r => ⟨[⟨K3, (r, ())⟩], []⟩) ?_ ?_ ?_ ?_ (by omega) (by omega) (fun r hr hp => ⟨r, go61 fun n hn => hr n hn, fun h => ⟨by have := (hp h).1; omega, ssm (Int.ofNat_le.1 (by show _ ≤ (1048576 : Int); omega)) fun i r hr => ?_⟩⟩)
    · intro i hi l h2 h3; obtain ⟨r, f, g⟩ := sz95 a0_0[i] l ((rsl hok).2 i a0_0[i] (at_lt hi)) h2 h3; exact ⟨r, g, fun n hn => f n (by omega)⟩
    · intro n _ fuel; show T61 (arun p n) fuel a0_0 left = _; unfold T61; rw [hw]; exact bif_neg hn
    · intro n fuel a rec i hi l r hr; replace hr : arun p n 95 [.val true ⟨K156, a0_0[i]⟩, .val false ⟨K3, (l, ())⟩] = some ⟨[⟨K3, (r, ())⟩], []⟩ := hr; show c61_5 (arun p n) fuel a0_0 rec (l, (i : Int)) = _; unfold c61_5; simp only [dec_lt hi, dec_nn, Int.toNat_natCast, at_lt hi, Option.bind_some, cond_true, call_step' hr, wrap_succ (show i < 9223372036854775807 by omega)]
    · intro n fuel a rec l; show c61_5 (arun p n) fuel a0_0 rec (l, ((List.length a0_0 : Nat) : Int)) = _; unfold c61_5; simp only [dec_end, cond_false]
    · obtain ⟨hi, rfl⟩ := at_some hr; have := (hp h).2 i hi; exact this
theorem to66 (a0_0 : List (Row K156)) (hs : Small K60 (a0_0, ())) : Ran p 8 66 [.val false ⟨K60, (a0_0, ())⟩] ⟨[⟨K67, (a0_0, ())⟩], []⟩ := go66 fun n hn => by
  have hl : List.length a0_0 ≤ 1048576 := (ssl hs).1
  refine Ev.eq (fun fuel => by unfold T66; exact bif_and3 (Int.natCast_nonneg _) (Int.ofNat_le.2 (Nat.le_trans hl (by decide))) rfl) ?_
  refine It.ev (c := fun fuel (_ : Unit) => c66_3 (arun p n) fuel a0_0) (i := ()) (r := fun _ => some ⟨[⟨K67, (a0_0, ())⟩], []⟩) ?_ rfl
  refine to_loop (α := Row K119) a0_0 (zeroRow K119) (fun i ys => ((i : Int), ys)) (fun i hi ys hy fuel a rec => ?_) (fun fuel a rec => ?_)
  · have hy' : i < ys.length := by rw [hy]; exact hi
    have hi1 : i < List.length (α := Row K156) a0_0 := hi
    have hb : i < 9223372036854775807 := Nat.lt_of_lt_of_le hi (Nat.le_trans hl (by decide))
    have f := to101 a0_0[i] ((ssl hs).2 i a0_0[i] (at_lt hi)) n (by omega)
    show c66_3 (arun p n) fuel a0_0 rec ((i : Int), ys) = _; unfold c66_3; simp only [dec_lt hi1, dec_nn, Int.toNat_natCast, at_lt hi1, at_lt hy', Option.bind_some, cond_true, call_step' f, wrap_succ hb] <;> rfl
  · show c66_3 (arun p n) fuel a0_0 rec (((List.length a0_0 : Nat) : Int), a0_0) = _; unfold c66_3; simp only [dec_end, cond_false] <;> rfl
theorem eq75 (a0_0 : List (Row K119)) (hs : Small K67 (a0_0, ())) : Ran p 8 75 [.val false ⟨K67, (a0_0, ())⟩, .val false ⟨K67, (a0_0, ())⟩] ⟨[⟨K4, (true, ())⟩], []⟩ := go75 fun n hn => by
  have hl : List.length a0_0 ≤ 1048576 := (ssl hs).1
  refine Ev.eq (fun fuel => by unfold T75; simp only [bne_self_eq_false, cond_false]; rfl) ?_
  refine It.ev (c := fun fuel (_ : Unit) => c75_4 (arun p n) fuel a0_0 a0_0) (i := ()) (r := fun _ => some ⟨[⟨K4, (true, ())⟩], []⟩) ?_ rfl
  refine eq_loop a0_0.length (fun i => (i : Int)) (fun i hi fuel a rec => ?_) (fun fuel a rec => ?_)
  · have f := eq113 a0_0[i] ((ssl hs).2 i a0_0[i] (at_lt hi)) n (by omega)
    show c75_4 (arun p n) fuel a0_0 a0_0 rec (i : Int) = _; unfold c75_4; simp only [dec_lt hi, dec_nn, Int.toNat_natCast, at_lt hi, Option.bind_some, cond_true, cond_false, bne_self_eq_false, Bool.not_true, call_step' f, wrap_succ (show i < 9223372036854775807 by omega)]
  · show c75_4 (arun p n) fuel a0_0 a0_0 rec ((List.length a0_0 : Nat) : Int) = _; unfold c75_4; simp only [dec_end, cond_false]
theorem sz30 (a0 : Row K64) (left : Int) (hok : ROkay K64 a0) (h0 : 0 ≤ left) (h1 : left ≤ 1048576) : ∃ r : Int, Ran p 9 30 [.val true ⟨K64, a0⟩, .val false ⟨K3, (left, ())⟩] ⟨[⟨K3, (r, ())⟩], []⟩ ∧ (0 ≤ r → r ≤ left ∧ Small K64 a0) := by
  obtain ⟨r0, f0, g0⟩ := sz61 (@vL K156 a0.1) left (rmk (rhd hok) trivial) (by omega) (by omega)
  by_cases n0 : r0 < 0
  · exact ⟨-1, go30 fun n hn => Ev.now fun fuel => by unfold T30; exact (call_step (f0 n (by omega))).trans <| (bif_pos n0), by omega⟩
  have l0 := (g0 (by omega)).1
  have s0 := shd (g0 (by omega)).2
  obtain ⟨r1, f1, g1⟩ := sz62 (@vL K158 a0.2.1) r0 (rmk (rhd (rtl hok)) trivial) (by omega) (by omega)
  by_cases n1 : r1 < 0
  · exact ⟨-1, go30 fun n hn => Ev.now fun fuel => by unfold T30; exact (call_step (f0 n (by omega))).trans <| (bif_neg n0).trans <| (call_step (f1 n (by omega))).trans <| (bif_pos n1), by omega⟩
  have l1 := (g1 (by omega)).1
  have s1 := shd (g1 (by omega)).2
  obtain ⟨r2, f2, g2⟩ := sz63 (@vL K161 a0.2.2.1) r1 (rmk (rhd (rtl (rtl hok))) trivial) (by omega) (by omega)
  by_cases n2 : r2 < 0
  · exact ⟨-1, go30 fun n hn => Ev.now fun fuel => by unfold T30; exact (call_step (f0 n (by omega))).trans <| (bif_neg n0).trans <| (call_step (f1 n (by omega))).trans <| (bif_neg n1).trans <| (call_step (f2 n (by omega))).trans <| (bif_pos n2), by omega⟩
  have l2 := (g2 (by omega)).1
  have s2 := shd (g2 (by omega)).2
  exact ⟨r2, go30 fun n hn => Ev.now fun fuel => by unfold T30; exact (call_step (f0 n (by omega))).trans <| (bif_neg n0).trans <| (call_step (f1 n (by omega))).trans <| (bif_neg n1).trans <| (call_step (f2 n (by omega))).trans <| (bif_neg n2).trans <|  rfl, fun _ => ⟨by omega, (smk s0 (smk s1 (smk s2 trivial)))⟩⟩
theorem to32 (a0 : Row K64) (hs : Small K64 a0) : Ran p 9 32 [.val true ⟨K64, a0⟩] ⟨[⟨K71, a0⟩], []⟩ := go32 fun n hn => Ev.now fun fuel => by
  unfold T32; exact (call_step (to66 (@vL K156 a0.1) (smk (shd hs) trivial) n (by omega))).trans <| (call_step (to67 (@vL K158 a0.2.1) (smk (shd (stl hs)) trivial) n (by omega))).trans <| (call_step (to68 (@vL K161 a0.2.2.1) (smk (shd (stl (stl hs))) trivial) n (by omega))).trans <|  rfl
theorem eq34 (a0 : Row K71) (hs : Small K71 a0) : Ran p 9 34 [.val true ⟨K71, a0⟩, .val true ⟨K71, a0⟩] ⟨[⟨K4, (true, ())⟩], []⟩ := go34 fun n hn => Ev.now fun fuel => by
  have f0 := eq75 (@vL K119 a0.1) (smk (shd hs) trivial) n (by omega)
  have f1 := eq76 (@vL K121 a0.2.1) (smk (shd (stl hs)) trivial) n (by omega)
  have f2 := eq77 (@vL K123 a0.2.2.1) (smk (shd (stl (stl hs))) trivial) n (by omega)
  unfold T34; simp only [call_step' f0, call_step' f1, call_step' f2, bne_self_eq_false, beq_self_eq_true, beqB_self, Bool.not_true, cond_false, cond_true]
end Go.Abs.Uz
