/- What the functions of this program answer, part a. -/
import Derived.Test.YtcmcnofamieegaaGreatXr0
import Derived.Test.YtcmcnofamieegaaGreatXr1
import Derived.Test.YtcmcnofamieegaaGreatXr2
import Derived.Test.YtcmcnofamieegaaGreatW1
set_option linter.unusedVariables false
set_option linter.unusedSimpArgs false
namespace Go.Abs.Vz
open Go Go.Abs
theorem sz67 (a0_0 : List (Row K137)) (left : Int) (hok : ROkay K40 (a0_0, ())) (h0 : 0 ≤ left) (h1 : left ≤ 1048576) : ∃ r : Int, Ran p 1 67 [.val false ⟨K40, (a0_0, ())⟩, .val false ⟨K3, (left, ())⟩] ⟨[⟨K3, (r, ())⟩], []⟩ ∧ (0 ≤ r → r ≤ left ∧ Small K40 (a0_0, ())) := by
  have hl : ((List.length a0_0 : Nat) : Int) ≤ 9223372036854775807 := by have := (rsl hok).1; exact Int.ofNat_le.2 this
  have hw : IntKind.i64.wrap (left - ((List.length a0_0 : Nat) : Int)) = left - ((List.length a0_0 : Nat) : Int) := wrap64 (by omega) (by omega)
  by_cases hn : left - ((List.length a0_0 : Nat) : Int) < 0
  · exact ⟨-1, go67 fun n hn' => Ev.now fun fuel => by unfold T67; rw [hw]; exact bif_pos hn, by omega⟩
  · refine ⟨left - ((List.length a0_0 : Nat) : Int), go67 fun n hn' => Ev.now fun fuel => by unfold T67; rw [hw]; exact bif_neg hn, fun _ => ⟨by omega, ssm (Int.ofNat_le.1 (by show _ ≤ (1048576 : Int); omega)) fun i r _ => ?_⟩⟩
    exact (smk trivial (smk trivial trivial))
theorem to110 (a0 : Row K137) (hs : Small K137 a0) : Ran p 1 110 [.val true ⟨K137, a0⟩] ⟨[⟨K80, a0⟩], []⟩ := go110 fun n hn => Ev.now fun fuel => by
  unfold T110; exact  rfl
theorem eq114 (a0 : Row K80) (hs : Small K80 a0) : Ran p 1 114 [.val true ⟨K80, a0⟩, .val true ⟨K80, a0⟩] ⟨[⟨K4, (true, ())⟩], []⟩ := go114 fun n hn => Ev.now fun fuel => by
  unfold T114; simp only [bne_self_eq_false, beq_self_eq_true, beqB_self, Bool.not_true, cond_false, cond_true]
theorem sz117 (a0_0 : List (Row K3)) (left : Int) (hok : ROkay K60 (a0_0, ())) (h0 : 0 ≤ left) (h1 : left ≤ 1048576) : ∃ r : Int, Ran p 1 117 [.val false ⟨K60, (a0_0, ())⟩, .val false ⟨K3, (left, ())⟩] ⟨[⟨K3, (r, ())⟩], []⟩ ∧ (0 ≤ r → r ≤ left ∧ Small K60 (a0_0, ())) := by
  have hl : ((List.length a0_0 : Nat) : Int) ≤ 9223372036854775807 := by have := (rsl hok).1; exact Int.ofNat_le.2 this
  have hw : IntKind.i64.wrap (left - ((List.length a0_0 : Nat) : Int)) = left - ((List.length a0_0 : Nat) : Int) := wrap64 (by omega) (by omega)
  by_cases hn : left - ((List.length a0_0 : Nat) : Int) < 0
  · exact ⟨-1, go117 fun n hn' => Ev.now fun fuel => by unfold T117; rw [hw]; exact bif_pos hn, by omega⟩
  · refine ⟨left - ((List.length a0_0 : Nat) : Int), go117 fun n hn' => Ev.now fun fuel => by unfold T117; rw [hw]; exact bif_neg hn, fun _ => ⟨by omega, ssm (Int.ofNat_le.1 (by show _ ≤ (1048576 : Int); omega)) fun i r _ => ?_⟩⟩
    exact (smk trivial trivial)
theorem sz119 (a0_0 : List (Row K177)) (left : Int) (hok : ROkay K102 (a0_0, ())) (h0 : 0 ≤ left) (h1 : left ≤ 1048576) : ∃ r : Int, Ran p 1 119 [.val false ⟨K102, (a0_0, ())⟩, .val false ⟨K3, (left, ())⟩] ⟨[⟨K3, (r, ())⟩], []⟩ ∧ (0 ≤ r → r ≤ left ∧ Small K102 (a0_0, ())) := by
  have hl : ((List.length a0_0 : Nat) : Int) ≤ 9223372036854775807 := by have := (rsl hok).1; exact Int.ofNat_le.2 this
  have hw : IntKind.i64.wrap (left - ((List.length a0_0 : Nat) : Int)) = left - ((List.length a0_0 : Nat) : Int) := wrap64 (by omega) (by omega)
  by_cases hn : left - ((List.length a0_0 : Nat) : Int) < 0
  · exact ⟨-1, go119 fun n hn' => Ev.now fun fuel => by unfold T119; rw [hw]; exact bif_pos hn, by omega⟩
  · refine ⟨left - ((List.length a0_0 : Nat) : Int), go119 fun n hn' => Ev.now fun fuel => by unfold T119; rw [hw]; exact bif_neg hn, fun _ => ⟨by omega, ssm (Int.ofNat_le.1 (by show _ ≤ (1048576 : Int); omega)) fun i r _ => ?_⟩⟩
    exact (smk trivial (smk trivial (smk trivial (smk trivial trivial))))
theorem sz120 (a0_0 : List (Row K179)) (left : Int) (hok : ROkay K103 (a0_0, ())) (h0 : 0 ≤ left) (h1 : left ≤ 1048576) : ∃ r : Int, Ran p 1 120 [.val false ⟨K103, (a0_0, ())⟩, .val false ⟨K3, (left, ())⟩] ⟨[⟨K3, (r, ())⟩], []⟩ ∧ (0 ≤ r → r ≤ left ∧ Small K103 (a0_0, ())) := by
  have hl : ((List.length a0_0 : Nat) : Int) ≤ 9223372036854775807 := by have := (rsl hok).1; exact Int.ofNat_le.2 this
  have hw : IntKind.i64.wrap (left - ((List.length a0_0 : Nat) : Int)) = left - ((List.length a0_0 : Nat) : Int) := wrap64 (by omega) (by omega)
  by_cases hn : left - ((List.length a0_0 : Nat) : Int) < 0
  · exact ⟨-1, go120 fun n hn' => Ev.now fun fuel => by unfold T120; rw [hw]; exact bif_pos hn, by omega⟩
  · refine ⟨left - ((List.length a0_0 : Nat) : Int), go120 fun n hn' => Ev.now fun fuel => by unfold T120; rw [hw]; exact bif_neg hn, fun _ => ⟨by omega, ssm (Int.ofNat_le.1 (by show _ ≤ (1048576 : Int); omega)) fun i r _ => ?_⟩⟩
    exact (smk trivial (smk trivial (smk trivial trivial)))
theorem sz121 (a0_0 : List (Row K5)) (left : Int) (hok : ROkay K107 (a0_0, ())) (h0 : 0 ≤ left) (h1 : left ≤ 1048576) : ∃ r : Int, Ran p 1 121 [.val false ⟨K107, (a0_0, ())⟩, .val false ⟨K3, (left, ())⟩] ⟨[⟨K3, (r, ())⟩], []⟩ ∧ (0 ≤ r → r ≤ left ∧ Small K107 (a0_0, ())) := by
  have hl : ((List.length a0_0 : Nat) : Int) ≤ 9223372036854775807 := by have := (rsl hok).1; exact Int.ofNat_le.2 this
  have hw : IntKind.i64.wrap (left - ((List.length a0_0 : Nat) : Int)) = left - ((List.length a0_0 : Nat) : Int) := wrap64 (by omega) (by omega)
  by_cases hn : left - ((List.length a0_0 : Nat) : Int) < 0
  · exact ⟨-1, go121 fun n hn' => Ev.now fun fuel => by unfold T121; rw [hw]; exact bif_pos hn, by omega⟩
  · refine ⟨left - ((List.length a0_0 : Nat) : Int), go121 fun n hn' => Ev.now fun fuel => by unfold T121; rw [hw]; exact bif_neg hn, fun _ => ⟨by omega, ssm (Int.ofNat_le.1 (by show _ ≤ (1048576 : Int); omega)) fun i r _ => ?_⟩⟩
    exact (smk trivial trivial)
theorem to129 (a0_0 : List (Row K3)) (hs : Small K60 (a0_0, ())) : Ran p 1 129 [.val false ⟨K60, (a0_0, ())⟩] ⟨[⟨K60, (a0_0, ())⟩], []⟩ := go129 fun n hn => by
  have hl : List.length a0_0 ≤ 1048576 := (ssl hs).1
  refine Ev.eq (fun fuel => by unfold T129; exact bif_and3 (Int.natCast_nonneg _) (Int.ofNat_le.2 (Nat.le_trans hl (by decide))) rfl) ?_
  refine It.ev (c := fun fuel (_ : Unit) => c129_3 (arun p n) fuel a0_0) (i := ()) (r := fun _ => some ⟨[⟨K60, (a0_0, ())⟩], []⟩) ?_ rfl
  refine to_loop (α := Row K3) a0_0 (zeroRow K3) (fun i ys => ((i : Int), ys)) (fun i hi ys hy fuel a rec => ?_) (fun fuel a rec => ?_)
  · have hy' : i < ys.length := by rw [hy]; exact hi
    have hi1 : i < List.length (α := Row K3) a0_0 := hi
    have hb : i < 9223372036854775807 := Nat.lt_of_lt_of_le hi (Nat.le_trans hl (by decide))
    show c129_3 (arun p n) fuel a0_0 rec ((i : Int), ys) = _; unfold c129_3; simp only [dec_lt hi1, dec_nn, Int.toNat_natCast, at_lt hi1, at_lt hy', Option.bind_some, cond_true, wrap_succ hb] <;> rfl
  · show c129_3 (arun p n) fuel a0_0 rec (((List.length a0_0 : Nat) : Int), a0_0) = _; unfold c129_3; simp only [dec_end, cond_false] <;> rfl
theorem to133 (a0_0 : List (Row K5)) (hs : Small K107 (a0_0, ())) : Ran p 1 133 [.val false ⟨K107, (a0_0, ())⟩] ⟨[⟨K107, (a0_0, ())⟩], []⟩ := go133 fun n hn => by
  have hl : List.length a0_0 ≤ 1048576 := (ssl hs).1
  refine Ev.eq (fun fuel => by unfold T133; exact bif_and3 (Int.natCast_nonneg _) (Int.ofNat_le.2 (Nat.le_trans hl (by decide))) rfl) ?_
  refine It.ev (c := fun fuel (_ : Unit) => c133_3 (arun p n) fuel a0_0) (i := ()) (r := fun _ => some ⟨[⟨K107, (a0_0, ())⟩], []⟩) ?_ rfl
  refine to_loop (α := Row K5) a0_0 (zeroRow K5) (fun i ys => ((i : Int), ys)) (fun i hi ys hy fuel a rec => ?_) (fun fuel a rec => ?_)
  · have hy' : i < ys.length := by rw [hy]; exact hi
    have hi1 : i < List.length (α := Row K5) a0_0 := hi
    have hb : i < 9223372036854775807 := Nat.lt_of_lt_of_le hi (Nat.le_trans hl (by decide))
    show c133_3 (arun p n) fuel a0_0 rec ((i : Int), ys) = _; unfold c133_3; simp only [dec_lt hi1, dec_nn, Int.toNat_natCast, at_lt hi1, at_lt hy', Option.bind_some, cond_true, wrap_succ hb] <;> rfl
  · show c133_3 (arun p n) fuel a0_0 rec (((List.length a0_0 : Nat) : Int), a0_0) = _; unfold c133_3; simp only [dec_end, cond_false] <;> rfl
theorem eq143 (a0_0 : List (Row K3)) (hs : Small K60 (a0_0, ())) : Ran p 1 143 [.val false ⟨K60, (a0_0, ())⟩, .val false ⟨K60, (a0_0, ())⟩] ⟨[⟨K4, (true, ())⟩], []⟩ := go143 fun n hn => by
  have hl : List.length a0_0 ≤ 1048576 := (ssl hs).1
  refine Ev.eq (fun fuel => by unfold T143; simp only [bne_self_eq_false, cond_false]; rfl) ?_
  refine It.ev (c := fun fuel (_ : Unit) => c143_4 (arun p n) fuel a0_0 a0_0) (i := ()) (r := fun _ => some ⟨[⟨K4, (true, ())⟩], []⟩) ?_ rfl
  refine eq_loop a0_0.length (fun i => (i : Int)) (fun i hi fuel a rec => ?_) (fun fuel a rec => ?_)
  · skip
    show c143_4 (arun p n) fuel a0_0 a0_0 rec (i : Int) = _; unfold c143_4; simp only [dec_lt hi, dec_nn, Int.toNat_natCast, at_lt hi, Option.bind_some, cond_true, cond_false, bne_self_eq_false, Bool.not_true, wrap_succ (show i < 9223372036854775807 by omega)]
  · show c143_4 (arun p n) fuel a0_0 a0_0 rec ((List.length a0_0 : Nat) : Int) = _; unfold c143_4; simp only [dec_end, cond_false]
theorem eq147 (a0_0 : List (Row K5)) (hs : Small K107 (a0_0, ())) : Ran p 1 147 [.val false ⟨K107, (a0_0, ())⟩, .val false ⟨K107, (a0_0, ())⟩] ⟨[⟨K4, (true, ())⟩], []⟩ := go147 fun n hn => by
  have hl : List.length a0_0 ≤ 1048576 := (ssl hs).1
  refine Ev.eq (fun fuel => by unfold T147; simp only [bne_self_eq_false, cond_false]; rfl) ?_
  refine It.ev (c := fun fuel (_ : Unit) => c147_4 (arun p n) fuel a0_0 a0_0) (i := ()) (r := fun _ => some ⟨[⟨K4, (true, ())⟩], []⟩) ?_ rfl
  refine eq_loop a0_0.length (fun i => (i : Int)) (fun i hi fuel a rec => ?_) (fun fuel a rec => ?_)
  · skip
    show c147_4 (arun p n) fuel a0_0 a0_0 rec (i : Int) = _; unfold c147_4; simp only [dec_lt hi, dec_nn, Int.toNat_natCast, at_lt hi, Option.bind_some, cond_true, cond_false, bne_self_eq_false, Bool.not_true, wrap_succ (show i < 9223372036854775807 by omega)]
  · show c147_4 (arun p n) fuel a0_0 a0_0 rec ((List.length a0_0 : Nat) : Int) = _; unfold c147_4; simp only [dec_end, cond_false]
theorem sz152 (a0 : Row K130) (left : Int) (hok : ROkay K130 a0) (h0 : 0 ≤ left) (h1 : left ≤ 1048576) : ∃ r : Int, Ran p 1 152 [.val true ⟨K130, a0⟩, .val false ⟨K3, (left, ())⟩] ⟨[⟨K3, (r, ())⟩], []⟩ ∧ (0 ≤ r → r ≤ left ∧ Small K130 a0) := by
  have hl : ((ByteArray.size (vS a0.2.2.2.2.1) : Nat) : Int) ≤ 9223372036854775807 := by have := (rhd (rtl (rtl (rtl (rtl hok))))); exact Int.ofNat_le.2 this
  have hw : IntKind.i64.wrap (left - ((ByteArray.size (vS a0.2.2.2.2.1) : Nat) : Int)) = left - ((ByteArray.size (vS a0.2.2.2.2.1) : Nat) : Int) := wrap64 (by omega) (by omega)
  by_cases hn : left - ((ByteArray.size (vS a0.2.2.2.2.1) : Nat) : Int) < 0
  · exact ⟨-1, go152 fun n hn' => Ev.now fun fuel => by unfold T152; rw [hw]; exact bif_pos hn, by omega⟩
  · have hz : ByteArray.size (vS a0.2.2.2.2.1) ≤ small := Int.ofNat_le.1 (by show ((ByteArray.size (vS a0.2.2.2.2.1) : Nat) : Int) ≤ (1048576 : Int); omega)
    exact ⟨left - ((ByteArray.size (vS a0.2.2.2.2.1) : Nat) : Int), go152 fun n hn' => Ev.now fun fuel => by unfold T152; rw [hw]; exact bif_neg hn, fun _ => ⟨by omega, (smk trivial (smk trivial (smk trivial (smk trivial (smk hz trivial)))))⟩⟩
theorem to153 (a0 : Row K130) (hs : Small K130 a0) : Ran p 1 153 [.val true ⟨K130, a0⟩] ⟨[⟨K57, a0⟩], []⟩ := go153 fun n hn => Ev.now fun fuel => by
  unfold T153; exact  rfl
theorem eq154 (a0 : Row K57) (hs : Small K57 a0) : Ran p 1 154 [.val true ⟨K57, a0⟩, .val true ⟨K57, a0⟩] ⟨[⟨K4, (true, ())⟩], []⟩ := go154 fun n hn => Ev.now fun fuel => by
  unfold T154; simp only [bne_self_eq_false, beq_self_eq_true, beqB_self, Bool.not_true, cond_false, cond_true]
theorem to159 (a0 : Row K177) (hs : Small K177 a0) : Ran p 1 159 [.val true ⟨K177, a0⟩] ⟨[⟨K174, a0⟩], []⟩ := go159 fun n hn => Ev.now fun fuel => by
  unfold T159; exact  rfl
theorem to160 (a0 : Row K179) (hs : Small K179 a0) : Ran p 1 160 [.val true ⟨K179, a0⟩] ⟨[⟨K152, a0⟩], []⟩ := go160 fun n hn => Ev.now fun fuel => by
  unfold T160; exact  rfl
theorem eq166 (a0 : Row K174) (hs : Small K174 a0) : Ran p 1 166 [.val true ⟨K174, a0⟩, .val true ⟨K174, a0⟩] ⟨[⟨K4, (true, ())⟩], []⟩ := go166 fun n hn => Ev.now fun fuel => by
  unfold T166; simp only [bne_self_eq_false, beq_self_eq_true, beqB_self, Bool.not_true, cond_false, cond_true]
theorem eq167 (a0 : Row K152) (hs : Small K152 a0) : Ran p 1 167 [.val true ⟨K152, a0⟩, .val true ⟨K152, a0⟩] ⟨[⟨K4, (true, ())⟩], []⟩ := go167 fun n hn => Ev.now fun fuel => by
  unfold T167; simp only [bne_self_eq_false, beq_self_eq_true, beqB_self, Bool.not_true, cond_false, cond_true]
theorem to72 (a0_0 : List (Row K137)) (hs : Small K40 (a0_0, ())) : Ran p 2 72 [.val false ⟨K40, (a0_0, ())⟩] ⟨[⟨K46, (a0_0, ())⟩], []⟩ := go72 fun n hn => by
  have hl : List.length a0_0 ≤ 1048576 := (ssl hs).1
  refine Ev.eq (fun fuel => by unfold T72; exact bif_and3 (Int.natCast_nonneg _) (Int.ofNat_le.2 (Nat.le_trans hl (by decide))) rfl) ?_
  refine It.ev (c := fun fuel (_ : Unit) => c72_3 (arun p n) fuel a0_0) (i := ()) (r := fun _ => some ⟨[⟨K46, (a0_0, ())⟩], []⟩) ?_ rfl
  refine to_loop (α := Row K80) a0_0 (zeroRow K80) (fun i ys => ((i : Int), ys)) (fun i hi ys hy fuel a rec => ?_) (fun fuel a rec => ?_)
  · have hy' : i < ys.length := by rw [hy]; exact hi
    have hi1 : i < List.length (α := Row K137) a0_0 := hi
    have hb : i < 9223372036854775807 := Nat.lt_of_lt_of_le hi (Nat.le_trans hl (by decide))
    have f := to110 a0_0[i] ((ssl hs).2 i a0_0[i] (at_lt hi)) n (by omega)
    show c72_3 (arun p n) fuel a0_0 rec ((i : Int), ys) = _; unfold c72_3; simp only [dec_lt hi1, dec_nn, Int.toNat_natCast, at_lt hi1, at_lt hy', Option.bind_some, cond_true, call_step' f, wrap_succ hb] <;> rfl
  · show c72_3 (arun p n) fuel a0_0 rec (((List.length a0_0 : Nat) : Int), a0_0) = _; unfold c72_3; simp only [dec_end, cond_false] <;> rfl
theorem eq77 (a0_0 : List (Row K80)) (hs : Small K46 (a0_0, ())) : Ran p 2 77 [.val false ⟨K46, (a0_0, ())⟩, .val false ⟨K46, (a0_0, ())⟩] ⟨[⟨K4, (true, ())⟩], []⟩ := go77 fun n hn => by
  have hl : List.length a0_0 ≤ 1048576 := (ssl hs).1
  refine Ev.eq (fun fuel => by unfold T77; simp only [bne_self_eq_false, cond_false]; rfl) ?_
  refine It.ev (c := fun fuel (_ : Unit) => c77_4 (arun p n) fuel a0_0 a0_0) (i := ()) (r := fun _ => some ⟨[⟨K4, (true, ())⟩], []⟩) ?_ rfl
  refine eq_loop a0_0.length (fun i => (i : Int)) (fun i hi fuel a rec => ?_) (fun fuel a rec => ?_)
  · have f := eq114 a0_0[i] ((ssl hs).2 i a0_0[i] (at_lt hi)) n (by omega)
    show c77_4 (arun p n) fuel a0_0 a0_0 rec (i : Int) = _; unfold c77_4; simp only [dec_lt hi, dec_nn, Int.toNat_natCast, at_lt hi, Option.bind_some, cond_true, cond_false, bne_self_eq_false, Bool.not_true, call_step' f, wrap_succ (show i < 9223372036854775807 by omega)]
  · show c77_4 (arun p n) fuel a0_0 a0_0 rec ((List.length a0_0 : Nat) : Int) = _; unfold c77_4; simp only [dec_end, cond_false]
theorem sz82 (a0 : Row K109) (left : Int) (hok : ROkay K109 a0) (h0 : 0 ≤ left) (h1 : left ≤ 1048576) : ∃ r : Int, Ran p 2 82 [.val true ⟨K109, a0⟩, .val false ⟨K3, (left, ())⟩] ⟨[⟨K3, (r, ())⟩], []⟩ ∧ (0 ≤ r → r ≤ left ∧ Small K109 a0) := by
  obtain ⟨r0, f0, g0⟩ := sz121 (@vL K5 a0.2.1) left (rmk (rhd (rtl hok)) trivial) (by omega) (by omega)
  by_cases n0 : r0 < 0
  · exact ⟨-1, go82 fun n hn => Ev.now fun fuel => by unfold T82; exact (call_step (f0 n (by omega))).trans <| (bif_pos n0), by omega⟩
  have l0 := (g0 (by omega)).1
  have s1 := shd (g0 (by omega)).2
  exact ⟨r0, go82 fun n hn => Ev.now fun fuel => by unfold T82; exact (call_step (f0 n (by omega))).trans <| (bif_neg n0).trans <|  rfl, fun _ => ⟨by omega, (smk trivial (smk s1 (smk trivial trivial)))⟩⟩
theorem to88 (a0 : Row K109) (hs : Small K109 a0) : Ran p 2 88 [.val true ⟨K109, a0⟩] ⟨[⟨K115, a0⟩], []⟩ := go88 fun n hn => Ev.now fun fuel => by
  unfold T88; exact (call_step (to133 (@vL K5 a0.2.1) (smk (shd (stl hs)) trivial) n (by omega))).trans <|  rfl
theorem eq95 (a0 : Row K115) (hs : Small K115 a0) : Ran p 2 95 [.val true ⟨K115, a0⟩, .val true ⟨K115, a0⟩] ⟨[⟨K4, (true, ())⟩], []⟩ := go95 fun n hn => Ev.now fun fuel => by
  have f0 := eq147 (@vL K5 a0.2.1) (smk (shd (stl hs)) trivial) n (by omega)
  unfold T95; simp only [call_step' f0, bne_self_eq_false, beq_self_eq_true, beqB_self, Bool.not_true, cond_false, cond_true]
theorem sz106 (a0 : Row K132) (left : Int) (hok : ROkay K132 a0) (h0 : 0 ≤ left) (h1 : left ≤ 1048576) : ∃ r : Int, Ran p 2 106 [.val true ⟨K132, a0⟩, .val false ⟨K3, (left, ())⟩] ⟨[⟨K3, (r, ())⟩], []⟩ ∧ (0 ≤ r → r ≤ left ∧ Small K132 a0) := by
  obtain ⟨r0, f0, g0⟩ := sz152 a0.2 left (rtl hok) (by omega) (by omega)
  by_cases n0 : r0 < 0
  · exact ⟨-1, go106 fun n hn => Ev.now fun fuel => by unfold T106; exact (call_step (f0 n (by omega))).trans <| (bif_pos n0), by omega⟩
  have l0 := (g0 (by omega)).1
  have s1 := shd (g0 (by omega)).2
  have s2 := shd (stl (g0 (by omega)).2)
  have s3 := shd (stl (stl (g0 (by omega)).2))
  have s4 := shd (stl (stl (stl (g0 (by omega)).2)))
  have s5 := shd (stl (stl (stl (stl (g0 (by omega)).2))))
  exact ⟨r0, go106 fun n hn => Ev.now fun fuel => by unfold T106; exact (call_step (f0 n (by omega))).trans <| (bif_neg n0).trans <|  rfl, fun _ => ⟨by omega, (smk trivial (smk s1 (smk s2 (smk s3 (smk s4 (smk s5 trivial))))))⟩⟩
theorem to109 (a0 : Row K132) (hs : Small K132 a0) : Ran p 2 109 [.val true ⟨K132, a0⟩] ⟨[⟨K95, a0⟩], []⟩ := go109 fun n hn => Ev.now fun fuel => by
  unfold T109; exact (call_step (to153 a0.2 (stl hs) n (by omega))).trans <|  rfl
theorem eq113 (a0 : Row K95) (hs : Small K95 a0) : Ran p 2 113 [.val true ⟨K95, a0⟩, .val true ⟨K95, a0⟩] ⟨[⟨K4, (true, ())⟩], []⟩ := go113 fun n hn => Ev.now fun fuel => by
  have f0 := eq154 a0.2 (stl hs) n (by omega)
  unfold T113; simp only [call_step' f0, bne_self_eq_false, beq_self_eq_true, beqB_self, Bool.not_true, cond_false, cond_true]
theorem sz115 (a0 : Row K98) (left : Int) (hok : ROkay K98 a0) (h0 : 0 ≤ left) (h1 : left ≤ 1048576) : ∃ r : Int, Ran p 2 115 [.val true ⟨K98, a0⟩, .val false ⟨K3, (left, ())⟩] ⟨[⟨K3, (r, ())⟩], []⟩ ∧ (0 ≤ r → r ≤ left ∧ Small K98 a0) := by
  obtain ⟨r0, f0, g0⟩ := sz117 (@vL K3 a0.1) left (rmk (rhd hok) trivial) (by omega) (by omega)
  by_cases n0 : r0 < 0
  · exact ⟨-1, go115 fun n hn => Ev.now fun fuel => by unfold T115; exact (call_step (f0 n (by omega))).trans <| (bif_pos n0), by omega⟩
  have l0 := (g0 (by omega)).1
  have s0 := shd (g0 (by omega)).2
  exact ⟨r0, go115 fun n hn => Ev.now fun fuel => by unfold T115; exact (call_step (f0 n (by omega))).trans <| (bif_neg n0).trans <|  rfl, fun _ => ⟨by omega, (smk s0 (smk trivial trivial))⟩⟩
theorem sz118 (a0_0 : List (Row K60)) (left : Int) (hok : ROkay K66 (a0_0, ())) (h0 : 0 ≤ left) (h1 : left ≤ 1048576) : ∃ r : Int, Ran p 2 118 [.val false ⟨K66, (a0_0, ())⟩, .val false ⟨K3, (left, ())⟩] ⟨[⟨K3, (r, ())⟩], []⟩ ∧ (0 ≤ r → r ≤ left ∧ Small K66 (a0_0, ())) := by
  have hl : ((List.length a0_0 : Nat) : Int) ≤ 9223372036854775807 := by have := (rsl hok).1; exact Int.ofNat_le.2 this
  have hw : IntKind.i64.wrap (left - ((List.length a0_0 : Nat) : Int)) = left - ((List.length a0_0 : Nat) : Int) := wrap64 (by omega) (by omega)
  by_cases hn : left - ((List.length a0_0 : Nat) : Int) < 0
  · exact ⟨-1, go118 fun n hn' => Ev.now fun fuel => by unfold T118; rw [hw]; exact bif_pos hn, by omega⟩
  · refine szl_fact (p := p) (lvl := 1) (xs := a0_0) (S := fun r => Small K60 (r.1, ())) (st := fun (i : Nat) (l : Int) => (l, (i : Int))) (W := fun n fuel => T118 (arun p n) fuel a0_0 left) (c := fun n fuel (_ : Unit) => c118_5 (arun p n) fuel a0_0) (l0 := left - ((List.length a0_0 : Nat) : Int)) (f := fun x l => [.val false ⟨K60, (x.1, ())⟩, .val false ⟨K3, (l, ())⟩]) (q := 117) (r0 := fun r => ⟨[⟨K3, (r, ())⟩], []⟩) ?_ ?_ ?_ ?_ (by omega) (by omega) (fun r hr hp => ⟨r, go118 fun n hn => hr n hn, fun h => ⟨by have := (hp h).1; omega, ssm (Int.ofNat_le.1 (by show _ ≤ (1048576 : Int); omega)) fun i r hr => ?_⟩⟩)
    · intro i hi l h2 h3; obtain ⟨r, f, g⟩ := sz117 a0_0[i].1 l ((rsl hok).2 i a0_0[i] (at_lt hi)) h2 h3; exact ⟨r, g, fun n hn => f n (by omega)⟩
    · intro n _ fuel; show T118 (arun p n) fuel a0_0 left = _; unfold T118; rw [hw]; exact bif_neg hn
    · intro n fuel a rec i hi l r hr; replace hr : arun p n 117 [.val false ⟨K60, (a0_0[i].1, ())⟩, .val false ⟨K3, (l, ())⟩] = some ⟨[⟨K3, (r, ())⟩], []⟩ := hr; show c118_5 (arun p n) fuel a0_0 rec (l, (i : Int)) = _; unfold c118_5; simp only [dec_lt hi, dec_nn, Int.toNat_natCast, at_lt hi, Option.bind_some, cond_true, call_step' hr, wrap_succ (show i < 9223372036854775807 by omega)]
    · intro n fuel a rec l; show c118_5 (arun p n) fuel a0_0 rec (l, ((List.length a0_0 : Nat) : Int)) = _; unfold c118_5; simp only [dec_end, cond_false]
    · obtain ⟨hi, rfl⟩ := at_some hr; have := (hp h).2 i hi; exact smk (shd this) trivial
theorem to127 (a0 : Row K98) (hs : Small K98 a0) : Ran p 2 127 [.val true ⟨K98, a0⟩] ⟨[⟨K62, a0⟩], []⟩ := go127 fun n hn => Ev.now fun fuel => by
  unfold T127; exact (call_step (to129 (@vL K3 a0.1) (smk (shd hs) trivial) n (by omega))).trans <|  rfl
theorem to130 (a0_0 : List (Row K60)) (hs : Small K66 (a0_0, ())) : Ran p 2 130 [.val false ⟨K66, (a0_0, ())⟩] ⟨[⟨K66, (a0_0, ())⟩], []⟩ := go130 fun n hn => by
  have hl : List.length a0_0 ≤ 1048576 := (ssl hs).1
  refine Ev.eq (fun fuel => by unfold T130; exact bif_and3 (Int.natCast_nonneg _) (Int.ofNat_le.2 (Nat.le_trans hl (by decide))) rfl) ?_
  refine It.ev (c := fun fuel (_ : Unit) => c130_3 (arun p n) fuel a0_0) (i := ()) (r := fun _ => some ⟨[⟨K66, (a0_0, ())⟩], []⟩) ?_ rfl
  refine to_loop (α := Row K60) a0_0 (zeroRow K60) (fun i ys => ((i : Int), ys)) (fun i hi ys hy fuel a rec => ?_) (fun fuel a rec => ?_)
  · have hy' : i < ys.length := by rw [hy]; exact hi
    have hi1 : i < List.length (α := Row K60) a0_0 := hi
    have hb : i < 9223372036854775807 := Nat.lt_of_lt_of_le hi (Nat.le_trans hl (by decide))
    have f := to129 a0_0[i].1 ((ssl hs).2 i a0_0[i] (at_lt hi)) n (by omega)
    show c130_3 (arun p n) fuel a0_0 rec ((i : Int), ys) = _; unfold c130_3; simp only [dec_lt hi1, dec_nn, Int.toNat_natCast, at_lt hi1, at_lt hy', Option.bind_some, cond_true, call_step' f, wrap_succ hb] <;> rfl
  · show c130_3 (arun p n) fuel a0_0 rec (((List.length a0_0 : Nat) : Int), a0_0) = _; unfold c130_3; simp only [dec_end, cond_false] <;> rfl
theorem to131 (a0_0 : List (Row K177)) (hs : Small K102 (a0_0, ())) : Ran p 2 131 [.val false ⟨K102, (a0_0, ())⟩] ⟨[⟨K67, (a0_0, ())⟩], []⟩ := go131 fun n hn => by
  have hl : List.length a0_0 ≤ 1048576 := (ssl hs).1
  refine Ev.eq (fun fuel => by unfold T131; exact bif_and3 (Int.natCast_nonneg _) (Int.ofNat_le.2 (Nat.le_trans hl (by decide))) rfl) ?_
  refine It.ev (c := fun fuel (_ : Unit) => c131_3 (arun p n) fuel a0_0) (i := ()) (r := fun _ => some ⟨[⟨K67, (a0_0, ())⟩], []⟩) ?_ rfl
  refine to_loop (α := Row K174) a0_0 (zeroRow K174) (fun i ys => ((i : Int), ys)) (fun i hi ys hy fuel a rec => ?_) (fun fuel a rec => ?_)
  · have hy' : i < ys.length := by rw [hy]; exact hi
    have hi1 : i < List.length (α := Row K177) a0_0 := hi
    have hb : i < 9223372036854775807 := Nat.lt_of_lt_of_le hi (Nat.le_trans hl (by decide))
    have f := to159 a0_0[i] ((ssl hs).2 i a0_0[i] (at_lt hi)) n (by omega)
    show c131_3 (arun p n) fuel a0_0 rec ((i : Int), ys) = _; unfold c131_3; simp only [dec_lt hi1, dec_nn, Int.toNat_natCast, at_lt hi1, at_lt hy', Option.bind_some, cond_true, call_step' f, wrap_succ hb] <;> rfl
  · show c131_3 (arun p n) fuel a0_0 rec (((List.length a0_0 : Nat) : Int), a0_0) = _; unfold c131_3; simp only [dec_end, cond_false] <;> rfl
theorem to132 (a0_0 : List (Row K179)) (hs : Small K103 (a0_0, ())) : Ran p 2 132 [.val false ⟨K103, (a0_0, ())⟩] ⟨[⟨K68, (a0_0, ())⟩], []⟩ := go132 fun n hn => by
  have hl : List.length a0_0 ≤ 1048576 := (ssl hs).1
  refine Ev.eq (fun fuel => by unfold T132; exact bif_and3 (Int.natCast_nonneg _) (Int.ofNat_le.2 (Nat.le_trans hl (by decide))) rfl) ?_
  refine It.ev (c := fun fuel (_ : Unit) => c132_3 (arun p n) fuel a0_0) (i := ()) (r := fun _ => some ⟨[⟨K68, (a0_0, ())⟩], []⟩) ?_ rfl
  refine to_loop (α := Row K152) a0_0 (zeroRow K152) (fun i ys => ((i : Int), ys)) (fun i hi ys hy fuel a rec => ?_) (fun fuel a rec => ?_)
  · have hy' : i < ys.length := by rw [hy]; exact hi
    have hi1 : i < List.length (α := Row K179) a0_0 := hi
    have hb : i < 9223372036854775807 := Nat.lt_of_lt_of_le hi (Nat.le_trans hl (by decide))
    have f := to160 a0_0[i] ((ssl hs).2 i a0_0[i] (at_lt hi)) n (by omega)
    show c132_3 (arun p n) fuel a0_0 rec ((i : Int), ys) = _; unfold c132_3; simp only [dec_lt hi1, dec_nn, Int.toNat_natCast, at_lt hi1, at_lt hy', Option.bind_some, cond_true, call_step' f, wrap_succ hb] <;> rfl
  · show c132_3 (arun p n) fuel a0_0 rec (((List.length a0_0 : Nat) : Int), a0_0) = _; unfold c132_3; simp only [dec_end, cond_false] <;> rfl
theorem eq141 (a0 : Row K62) (hs : Small K62 a0) : Ran p 2 141 [.val true ⟨K62, a0⟩, .val true ⟨K62, a0⟩] ⟨[⟨K4, (true, ())⟩], []⟩ := go141 fun n hn => Ev.now fun fuel => by
  have f0 := eq143 (@vL K3 a0.1) (smk (shd hs) trivial) n (by omega)
  unfold T141; simp only [call_step' f0, bne_self_eq_false, beq_self_eq_true, beqB_self, Bool.not_true, cond_false, cond_true]
theorem eq144 (a0_0 : List (Row K60)) (hs : Small K66 (a0_0, ())) : Ran p 2 144 [.val false ⟨K66, (a0_0, ())⟩, .val false ⟨K66, (a0_0, ())⟩] ⟨[⟨K4, (true, ())⟩], []⟩ := go144 fun n hn => by
  have hl : List.length a0_0 ≤ 1048576 := (ssl hs).1
  refine Ev.eq (fun fuel => by unfold T144; simp only [bne_self_eq_false, cond_false]; rfl) ?_
  refine It.ev (c := fun fuel (_ : Unit) => c144_4 (arun p n) fuel a0_0 a0_0) (i := ()) (r := fun _ => some ⟨[⟨K4, (true, ())⟩], []⟩) ?_ rfl
  refine eq_loop a0_0.length (fun i => (i : Int)) (fun i hi fuel a rec => ?_) (fun fuel a rec => ?_)
  · have f := eq143 a0_0[i].1 ((ssl hs).2 i a0_0[i] (at_lt hi)) n (by omega)
    show c144_4 (arun p n) fuel a0_0 a0_0 rec (i : Int) = _; unfold c144_4; simp only [dec_lt hi, dec_nn, Int.toNat_natCast, at_lt hi, Option.bind_some, cond_true, cond_false, bne_self_eq_false, Bool.not_true, call_step' f, wrap_succ (show i < 9223372036854775807 by omega)]
  · show c144_4 (arun p n) fuel a0_0 a0_0 rec ((List.length a0_0 : Nat) : Int) = _; unfold c144_4; simp only [dec_end, cond_false]
theorem eq145 (a0_0 : List (Row K174)) (hs : Small K67 (a0_0, ())) : Ran p 2 145 [.val false ⟨K67, (a0_0, ())⟩, .val false ⟨K67, (a0_0, ())⟩] ⟨[⟨K4, (true, ())⟩], []⟩ := go145 fun n hn => by
  have hl : List.length a0_0 ≤ 1048576 := (ssl hs).1
  refine Ev.eq (fun fuel => by unfold T145; simp only [bne_self_eq_false, cond_false]; rfl) ?_
  refine It.ev (c := fun fuel (_ : Unit) => c145_4 (arun p n) fuel a0_0 a0_0) (i := ()) (r := fun _ => some ⟨[⟨K4, (true, ())⟩], []⟩) ?_ rfl
  refine eq_loop a0_0.length (fun i => (i : Int)) (fun i hi fuel a rec => ?_) (fun fuel a rec => ?_)
  · have f := eq166 a0_0[i] ((ssl hs).2 i a0_0[i] (at_lt hi)) n (by omega)
    show c145_4 (arun p n) fuel a0_0 a0_0 rec (i : Int) = _; unfold c145_4; simp only [dec_lt hi, dec_nn, Int.toNat_natCast, at_lt hi, Option.bind_some, cond_true, cond_false, bne_self_eq_false, Bool.not_true, call_step' f, wrap_succ (show i < 9223372036854775807 by omega)]
  · show c145_4 (arun p n) fuel a0_0 a0_0 rec ((List.length a0_0 : Nat) : Int) = _; unfold c145_4; simp only [dec_end, cond_false]
theorem eq146 (a0_0 : List (Row K152)) (hs : Small K68 (a0_0, ())) : Ran p 2 146 [.val false ⟨K68, (a0_0, ())⟩, .val false ⟨K68, (a0_0, ())⟩] ⟨[⟨K4, (true, ())⟩], []⟩ := go146 fun n hn => by
  have hl : List.length a0_0 ≤ 1048576 := (ssl hs).1
  refine Ev.eq (fun fuel => by unfold T146; simp only [bne_self_eq_false, cond_false]; rfl) ?_
  refine It.ev (c := fun fuel (_ : Unit) => c146_4 (arun p n) fuel a0_0 a0_0) (i := ()) (r := fun _ => some ⟨[⟨K4, (true, ())⟩], []⟩) ?_ rfl
  refine eq_loop a0_0.length (fun i => (i : Int)) (fun i hi fuel a rec => ?_) (fun fuel a rec => ?_)
  · have f := eq167 a0_0[i] ((ssl hs).2 i a0_0[i] (at_lt hi)) n (by omega)
    show c146_4 (arun p n) fuel a0_0 a0_0 rec (i : Int) = _; unfold c146_4; simp only [dec_lt hi, dec_nn, Int.toNat_natCast, at_lt hi, Option.bind_some, cond_true, cond_false, bne_self_eq_false, Bool.not_true, call_step' f, wrap_succ (show i < 9223372036854775807 by omega)]
  · show c146_4 (arun p n) fuel a0_0 a0_0 rec ((List.length a0_0 : Nat) : Int) = _; unfold c146_4; simp only [dec_end, cond_false]
theorem sz37 (a0_0 : List (Row K109)) (left : Int) (hok : ROkay K23 (a0_0, ())) (h0 : 0 ≤ left) (h1 : left ≤ 1048576) : ∃ r : Int, Ran p 3 37 [.val false ⟨K23, (a0_0, ())⟩, .val false ⟨K3, (left, ())⟩] ⟨[⟨K3, (r, ())⟩], []⟩ ∧ (0 ≤ r → r ≤ left ∧ Small K23 (a0_0, ())) := by
  have hl : ((List.length a0_0 : Nat) : Int) ≤ 9223372036854775807 := by have := (rsl hok).1; exact Int.ofNat_le.2 this
  have hw : IntKind.i64.wrap (left - ((List.length a0_0 : Nat) : Int)) = left - ((List.length a0_0 : Nat) : Int) := wrap64 (by omega) (by omega)
  by_cases hn : left - ((List.length a0_0 : Nat) : Int) < 0
  · exact ⟨-1, go37 fun n hn' => Ev.now fun fuel => by unfold T37; rw [hw]; exact bif_pos hn, by omega⟩
  · refine szl_fact (p := p) (lvl := 2) (xs := a0_0) (S := fun r => Small K109 r) (st := fun (i : Nat) (l : Int) => (l, (i : Int))) (W := fun n fuel => T37 (arun p n) fuel a0_0 left) (c := fun n fuel (_ : Unit) => c37_5 (arun p n) fuel a0_0) (l0 := left - ((List.length a0_0 : Nat) : Int)) (f := fun x l => [.val true ⟨K109, x⟩, .val false ⟨K3, (l, ())⟩]) (q := 82) (r0 := fun r => ⟨[⟨K3, (r, ())⟩], []⟩) ?_ ?_ ?_ ?_ (by omega) (by omega) (fun r hr hp => ⟨r, go37 fun n hn => hr n hn, fun h => ⟨by have := (hp h).1; omega, ssm (Int.ofNat_le.1 (by show _ ≤ (1048576 : Int); omega)) fun i r hr => ?_⟩⟩)
    · intro i hi l h2 h3; obtain ⟨r, f, g⟩ := sz82 a0_0[i] l ((rsl hok).2 i a0_0[i] (at_lt hi)) h2 h3; exact ⟨r, g, fun n hn => f n (by omega)⟩
    · intro n _ fuel; show T37 (arun p n) fuel a0_0 left = _; unfold T37; rw [hw]; exact bif_neg hn
    · intro n fuel a rec i hi l r hr; replace hr : arun p n 82 [.val true ⟨K109, a0_0[i]⟩, .val false ⟨K3, (l, ())⟩] = some ⟨[⟨K3, (r, ())⟩], []⟩ := hr; show c37_5 (arun p n) fuel a0_0 rec (l, (i : Int)) = _; unfold c37_5; simp only [dec_lt hi, dec_nn, Int.toNat_natCast, at_lt hi, Option.bind_some, cond_true, call_step' hr, wrap_succ (show i < 9223372036854775807 by omega)]
    · intro n fuel a rec l; show c37_5 (arun p n) fuel a0_0 rec (l, ((List.length a0_0 : Nat) : Int)) = _; unfold c37_5; simp only [dec_end, cond_false]
    · obtain ⟨hi, rfl⟩ := at_some hr; have := (hp h).2 i hi; exact this
theorem to43 (a0_0 : List (Row K109)) (hs : Small K23 (a0_0, ())) : Ran p 3 43 [.val false ⟨K23, (a0_0, ())⟩] ⟨[⟨K30, (a0_0, ())⟩], []⟩ := go43 fun n hn => by
  have hl : List.length a0_0 ≤ 1048576 := (ssl hs).1
  refine Ev.eq (fun fuel => by unfold T43; exact bif_and3 (Int.natCast_nonneg _) (Int.ofNat_le.2 (Nat.le_trans hl (by decide))) rfl) ?_
  refine It.ev (c := fun fuel (_ : Unit) => c43_3 (arun p n) fuel a0_0) (i := ()) (r := fun _ => some ⟨[⟨K30, (a0_0, ())⟩], []⟩) ?_ rfl
  refine to_loop (α := Row K115) a0_0 (zeroRow K115) (fun i ys => ((i : Int), ys)) (fun i hi ys hy fuel a rec => ?_) (fun fuel a rec => ?_)
  · have hy' : i < ys.length := by rw [hy]; exact hi
    have hi1 : i < List.length (α := Row K109) a0_0 := hi
    have hb : i < 9223372036854775807 := Nat.lt_of_lt_of_le hi (Nat.le_trans hl (by decide))
    have f := to88 a0_0[i] ((ssl hs).2 i a0_0[i] (at_lt hi)) n (by omega)
    show c43_3 (arun p n) fuel a0_0 rec ((i : Int), ys) = _; unfold c43_3; simp only [dec_lt hi1, dec_nn, Int.toNat_natCast, at_lt hi1, at_lt hy', Option.bind_some, cond_true, call_step' f, wrap_succ hb] <;> rfl
  · show c43_3 (arun p n) fuel a0_0 rec (((List.length a0_0 : Nat) : Int), a0_0) = _; unfold c43_3; simp only [dec_end, cond_false] <;> rfl
theorem eq48 (a0_0 : List (Row K115)) (hs : Small K30 (a0_0, ())) : Ran p 3 48 [.val false ⟨K30, (a0_0, ())⟩, .val false ⟨K30, (a0_0, ())⟩] ⟨[⟨K4, (true, ())⟩], []⟩ := go48 fun n hn => by
  have hl : List.length a0_0 ≤ 1048576 := (ssl hs).1
  refine Ev.eq (fun fuel => by unfold T48; simp only [bne_self_eq_false, cond_false]; rfl) ?_
  refine It.ev (c := fun fuel (_ : Unit) => c48_4 (arun p n) fuel a0_0 a0_0) (i := ()) (r := fun _ => some ⟨[⟨K4, (true, ())⟩], []⟩) ?_ rfl
  refine eq_loop a0_0.length (fun i => (i : Int)) (fun i hi fuel a rec => ?_) (fun fuel a rec => ?_)
  · have f := eq95 a0_0[i] ((ssl hs).2 i a0_0[i] (at_lt hi)) n (by omega)
    show c48_4 (arun p n) fuel a0_0 a0_0 rec (i : Int) = _; unfold c48_4; simp only [dec_lt hi, dec_nn, Int.toNat_natCast, at_lt hi, Option.bind_some, cond_true, cond_false, bne_self_eq_false, Bool.not_true, call_step' f, wrap_succ (show i < 9223372036854775807 by omega)]
  · show c48_4 (arun p n) fuel a0_0 a0_0 rec ((List.length a0_0 : Nat) : Int) = _; unfold c48_4; simp only [dec_end, cond_false]
theorem sz66 (a0_0 : List (Row K132)) (left : Int) (hok : ROkay K39 (a0_0, ())) (h0 : 0 ≤ left) (h1 : left ≤ 1048576) : ∃ r : Int, Ran p 3 66 [.val false ⟨K39, (a0_0, ())⟩, .val false ⟨K3, (left, ())⟩] ⟨[⟨K3, (r, ())⟩], []⟩ ∧ (0 ≤ r → r ≤ left ∧ Small K39 (a0_0, ())) := by
  have hl : ((List.length a0_0 : Nat) : Int) ≤ 9223372036854775807 := by have := (rsl hok).1; exact Int.ofNat_le.2 this
  have hw : IntKind.i64.wrap (left - ((List.length a0_0 : Nat) : Int)) = left - ((List.length a0_0 : Nat) : Int) := wrap64 (by omega) (by omega)
  by_cases hn : left - ((List.length a0_0 : Nat) : Int) < 0
  · exact ⟨-1, go66 fun n hn' => Ev.now fun fuel => by unfold T66; rw [hw]; exact bif_pos hn, by omega⟩
  · refine szl_fact (p := p) (lvl := 2) (xs := a0_0) (S := fun r => Small K132 r) (st := fun (i : Nat) (l : Int) => (l, (i : Int))) (W := fun n fuel => T66 (arun p n) fuel a0_0 left) (c := fun n fuel (_ : Unit) => c66_5 (arun p n) fuel a0_0) (l0 := left - ((List.length a0_0 : Nat) : Int)) (f := fun x l => [.val true ⟨K132, x⟩, .val false ⟨K3, (l, ())⟩]) (q := 106) (r0 := fun r => ⟨[⟨K3, (r, ())⟩], []⟩) ?_ ?_ ?_ ?_ (by omega) (by omega) (fun r hr hp => ⟨r, go66 fun n hn => hr n hn, fun h => ⟨by have := (hp h).1; omega, ssm (Int.ofNat_le.1 (by show _ ≤ (1048576 : Int); omega)) fun i r hr => ?_⟩⟩)
    · intro i hi l h2 h3; obtain ⟨r, f, g⟩ := sz106 a0_0[i] l ((rsl hok).2 i a0_0[i] (at_lt hi)) h2 h3; exact ⟨r, g, fun n hn => f n (by omega)⟩
    · intro n _ fuel; show T66 (arun p n) fuel a0_0 left = _; unfold T66; rw [hw]; exact bif_neg hn
    · intro n fuel a rec i hi l r hr; replace hr : arun p n 106 [.val true ⟨K132, a0_0[i]⟩, .val false ⟨K3, (l, ())⟩] = some ⟨[⟨K3, (r, ())⟩], []⟩ := hr; show c66_5 (arun p n) fuel a0_0 rec (l, (i : Int)) = _; unfold c66_5; simp only [dec_lt hi, dec_nn, Int.toNat_natCast, at_lt hi, Option.bind_some, cond_true, call_step' hr, wrap_succ (show i < 9223372036854775807 by omega)]
    · intro n fuel a rec l; show c66_5 (arun p n) fuel a0_0 rec (l, ((List.length a0_0 : Nat) : Int)) = _; unfold c66_5; simp only [dec_end, cond_false]
    · obtain ⟨hi, rfl⟩ := at_some hr; have := (hp h).2 i hi; exact this
theorem to71 (a0_0 : List (Row K132)) (hs : Small K39 (a0_0, ())) : Ran p 3 71 [.val false ⟨K39, (a0_0, ())⟩] ⟨[⟨K45, (a0_0, ())⟩], []⟩ := go71 fun n hn => by
  have hl : List.length a0_0 ≤ 1048576 := (ssl hs).1
  refine Ev.eq (fun fuel => by unfold T71; exact bif_and3 (Int.natCast_nonneg _) (Int.ofNat_le.2 (Nat.le_trans hl (by decide))) rfl) ?_
  refine It.ev (c := fun fuel (_ : Unit) => c71_3 (arun p n) fuel a0_0) (i := ()) (r := fun _ => some ⟨[⟨K45, (a0_0, ())⟩], []⟩) ?_ rfl
  refine to_loop (α := Row K95) a0_0 (zeroRow K95) (fun i ys => ((i : Int), ys)) (fun i hi ys hy fuel a rec => ?_) (fun fuel a rec => ?_)
  · have hy' : i < ys.length := by rw [hy]; exact hi
    have hi1 : i < List.length (α := Row K132) a0_0 := hi
    have hb : i < 9223372036854775807 := Nat.lt_of_lt_of_le hi (Nat.le_trans hl (by decide))
    have f := to109 a0_0[i] ((ssl hs).2 i a0_0[i] (at_lt hi)) n (by omega)
    show c71_3 (arun p n) fuel a0_0 rec ((i : Int), ys) = _; unfold c71_3; simp only [dec_lt hi1, dec_nn, Int.toNat_natCast, at_lt hi1, at_lt hy', Option.bind_some, cond_true, call_step' f, wrap_succ hb] <;> rfl
  · show c71_3 (arun p n) fuel a0_0 rec (((List.length a0_0 : Nat) : Int), a0_0) = _; unfold c71_3; simp only [dec_end, cond_false] <;> rfl
theorem eq76 (a0_0 : List (Row K95)) (hs : Small K45 (a0_0, ())) : Ran p 3 76 [.val false ⟨K45, (a0_0, ())⟩, .val false ⟨K45, (a0_0, ())⟩] ⟨[⟨K4, (true, ())⟩], []⟩ := go76 fun n hn => by
  have hl : List.length a0_0 ≤ 1048576 := (ssl hs).1
  refine Ev.eq (fun fuel => by unfold T76; simp only [bne_self_eq_false, cond_false]; rfl) ?_
  refine It.ev (c := fun fuel (_ : Unit) => c76_4 (arun p n) fuel a0_0 a0_0) (i := ()) (r := fun _ => some ⟨[⟨K4, (true, ())⟩], []⟩) ?_ rfl
  refine eq_loop a0_0.length (fun i => (i : Int)) (fun i hi fuel a rec => ?_) (fun fuel a rec => ?_)
  · have f := eq113 a0_0[i] ((ssl hs).2 i a0_0[i] (at_lt hi)) n (by omega)
    show c76_4 (arun p n) fuel a0_0 a0_0 rec (i : Int) = _; unfold c76_4; simp only [dec_lt hi, dec_nn, Int.toNat_natCast, at_lt hi, Option.bind_some, cond_true, cond_false, bne_self_eq_false, Bool.not_true, call_step' f, wrap_succ (show i < 9223372036854775807 by omega)]
  · show c76_4 (arun p n) fuel a0_0 a0_0 rec ((List.length a0_0 : Nat) : Int) = _; unfold c76_4; simp only [dec_end, cond_false]
theorem sz25 (a0 : Row K42) (left : Int) (hok : ROkay K42 a0) (h0 : 0 ≤ left) (h1 : left ≤ 1048576) : ∃ r : Int, Ran p 4 25 [.val true ⟨K42, a0⟩, .val false ⟨K3, (left, ())⟩] ⟨[⟨K3, (r, ())⟩], []⟩ ∧ (0 ≤ r → r ≤ left ∧ Small K42 a0) := by
  obtain ⟨r0, f0, g0⟩ := sz66 (@vL K132 a0.1) left (rmk (rhd hok) trivial) (by omega) (by omega)
  by_cases n0 : r0 < 0
  · exact ⟨-1, go25 fun n hn => Ev.now fun fuel => by unfold T25; exact (call_step (f0 n (by omega))).trans <| (bif_pos n0), by omega⟩
  have l0 := (g0 (by omega)).1
  have s0 := shd (g0 (by omega)).2
  obtain ⟨r1, f1, g1⟩ := sz67 (@vL K137 a0.2.1) r0 (rmk (rhd (rtl hok)) trivial) (by omega) (by omega)
  by_cases n1 : r1 < 0
  · exact ⟨-1, go25 fun n hn => Ev.now fun fuel => by unfold T25; exact (call_step (f0 n (by omega))).trans <| (bif_neg n0).trans <| (call_step (f1 n (by omega))).trans <| (bif_pos n1), by omega⟩
  have l1 := (g1 (by omega)).1
  have s1 := shd (g1 (by omega)).2
  exact ⟨r1, go25 fun n hn => Ev.now fun fuel => by unfold T25; exact (call_step (f0 n (by omega))).trans <| (bif_neg n0).trans <| (call_step (f1 n (by omega))).trans <| (bif_neg n1).trans <|  rfl, fun _ => ⟨by omega, (smk s0 (smk s1 trivial))⟩⟩
theorem to27 (a0 : Row K42) (hs : Small K42 a0) : Ran p 4 27 [.val true ⟨K42, a0⟩] ⟨[⟨K48, a0⟩], []⟩ := go27 fun n hn => Ev.now fun fuel => by
  unfold T27; exact (call_step (to71 (@vL K132 a0.1) (smk (shd hs) trivial) n (by omega))).trans <| (call_step (to72 (@vL K137 a0.2.1) (smk (shd (stl hs)) trivial) n (by omega))).trans <|  rfl
theorem eq29 (a0 : Row K48) (hs : Small K48 a0) : Ran p 4 29 [.val true ⟨K48, a0⟩, .val true ⟨K48, a0⟩] ⟨[⟨K4, (true, ())⟩], []⟩ := go29 fun n hn => Ev.now fun fuel => by
  have f0 := eq76 (@vL K95 a0.1) (smk (shd hs) trivial) n (by omega)
  have f1 := eq77 (@vL K80 a0.2.1) (smk (shd (stl hs)) trivial) n (by omega)
  unfold T29; simp only [call_step' f0, call_step' f1, bne_self_eq_false, beq_self_eq_true, beqB_self, Bool.not_true, cond_false, cond_true]
theorem sz83 (a0 : Row K112) (left : Int) (hok : ROkay K112 a0) (h0 : 0 ≤ left) (h1 : left ≤ 1048576) : ∃ r : Int, Ran p 5 83 [.val true ⟨K112, a0⟩, .val false ⟨K3, (left, ())⟩] ⟨[⟨K3, (r, ())⟩], []⟩ ∧ (0 ≤ r → r ≤ left ∧ Small K112 a0) := by
  obtain ⟨r0, f0, g0⟩ := sz25 a0.2 left (rtl hok) (by omega) (by omega)
  by_cases n0 : r0 < 0
  · exact ⟨-1, go83 fun n hn => Ev.now fun fuel => by unfold T83; exact (call_step (f0 n (by omega))).trans <| (bif_pos n0), by omega⟩
  have l0 := (g0 (by omega)).1
  have s1 := shd (g0 (by omega)).2
  have s2 := shd (stl (g0 (by omega)).2)
  exact ⟨r0, go83 fun n hn => Ev.now fun fuel => by unfold T83; exact (call_step (f0 n (by omega))).trans <| (bif_neg n0).trans <|  rfl, fun _ => ⟨by omega, (smk trivial (smk s1 (smk s2 trivial)))⟩⟩
theorem to89 (a0 : Row K112) (hs : Small K112 a0) : Ran p 5 89 [.val true ⟨K112, a0⟩] ⟨[⟨K117, a0⟩], []⟩ := go89 fun n hn => Ev.now fun fuel => by
  unfold T89; exact (call_step (to27 a0.2 (stl hs) n (by omega))).trans <|  rfl
theorem eq96 (a0 : Row K117) (hs : Small K117 a0) : Ran p 5 96 [.val true ⟨K117, a0⟩, .val true ⟨K117, a0⟩] ⟨[⟨K4, (true, ())⟩], []⟩ := go96 fun n hn => Ev.now fun fuel => by
  have f0 := eq29 a0.2 (stl hs) n (by omega)
  unfold T96; simp only [call_step' f0, bne_self_eq_false, beq_self_eq_true, beqB_self, Bool.not_true, cond_false, cond_true]
theorem sz155 (a0_0 : List (Row K42)) (left : Int) (hok : ROkay K99 (a0_0, ())) (h0 : 0 ≤ left) (h1 : left ≤ 1048576) : ∃ r : Int, Ran p 5 155 [.val false ⟨K99, (a0_0, ())⟩, .val false ⟨K3, (left, ())⟩] ⟨[⟨K3, (r, ())⟩], []⟩ ∧ (0 ≤ r → r ≤ left ∧ Small K99 (a0_0, ())) := by
  have hl : ((List.length a0_0 : Nat) : Int) ≤ 9223372036854775807 := by have := (rsl hok).1; exact Int.ofNat_le.2 this
  have hw : IntKind.i64.wrap (left - ((List.length a0_0 : Nat) : Int)) = left - ((List.length a0_0 : Nat) : Int) := wrap64 (by omega) (by omega)
  by_cases hn : left - ((List.length a0_0 : Nat) : Int) < 0
  · exact ⟨-1, go155 fun n hn' => Ev.now fun fuel => by unfold T155; rw [hw]; exact bif_pos hn, by omega⟩
  · refine szl_fact (p := p) (lvl := 4) (xs := a0_0) (S := fun r => Small K42 r) (st := fun (i : Nat) (l : Int) => (l, (i : Int))) (W := fun n fuel => T155 (arun p n) fuel a0_0 left) (c := fun n fuel (_ : Unit) => c155_5 (arun p n) fuel a0_0) (l0 := left - ((List.length a0_0 : Nat) : Int)) (f := fun x l => [.val true ⟨K42, x⟩, .val false ⟨K3, (l, ())⟩]) (q := 25) (r0 := fun r => ⟨[⟨K3, (r, ())⟩], []⟩) ?_ ?_ ?_ ?_ (by omega) (by omega) (fun r hr hp => ⟨r, go155 fun n hn => hr n hn, fun h => ⟨by have := (hp h).1; omega, ssm (Int.ofNat_le.1 (by show _ ≤ (1048576 : Int); omega)) fun i r hr => ?_⟩⟩)
    · intro i hi l h2 h3; obtain ⟨r, f, g⟩ := sz25 a0_0[i] l ((rsl hok).2 i a0_0[i] (at_lt hi)) h2 h3; exact ⟨r, g, fun n hn => f n (by omega)⟩
    · intro n _ fuel; show T155 (arun p n) fuel a0_0 left = _; unfold T155; rw [hw]; exact bif_neg hn
    · intro n fuel a rec i hi l r hr; replace hr : arun p n 25 [.val true ⟨K42, a0_0[i]⟩, .val false ⟨K3, (l, ())⟩] = some ⟨[⟨K3, (r, ())⟩], []⟩ := hr; show c155_5 (arun p n) fuel a0_0 rec (l, (i : Int)) = _; unfold c155_5; simp only [dec_lt hi, dec_nn, Int.toNat_natCast, at_lt hi, Option.bind_some, cond_true, call_step' hr, wrap_succ (show i < 9223372036854775807 by omega)]
    · intro n fuel a rec l; show c155_5 (arun p n) fuel a0_0 rec (l, ((List.length a0_0 : Nat) : Int)) = _; unfold c155_5; simp only [dec_end, cond_false]
    · obtain ⟨hi, rfl⟩ := at_some hr; have := (hp h).2 i hi; exact this
theorem to158 (a0_0 : List (Row K42)) (hs : Small K99 (a0_0, ())) : Ran p 5 158 [.val false ⟨K99, (a0_0, ())⟩] ⟨[⟨K63, (a0_0, ())⟩], []⟩ := go158 fun n hn => by
  have hl : List.length a0_0 ≤ 1048576 := (ssl hs).1
  refine Ev.eq (fun fuel => by unfold T158; exact bif_and3 (Int.natCast_nonneg _) (Int.ofNat_le.2 (Nat.le_trans hl (by decide))) rfl) ?_
  refine It.ev (c := fun fuel (_ : Unit) => c158_3 (arun p n) fuel a0_0) (i := ()) (r := fun _ => some ⟨[⟨K63, (a0_0, ())⟩], []⟩) ?_ rfl
  refine to_loop (α := Row K48) a0_0 (zeroRow K48) (fun i ys => ((i : Int), ys)) (fun i hi ys hy fuel a rec => ?_) (fun fuel a rec => ?_)
  · have hy' : i < ys.length := by rw [hy]; exact hi
    have hi1 : i < List.length (α := Row K42) a0_0 := hi
    have hb : i < 9223372036854775807 := Nat.lt_of_lt_of_le hi (Nat.le_trans hl (by decide))
    have f := to27 a0_0[i] ((ssl hs).2 i a0_0[i] (at_lt hi)) n (by omega)
    show c158_3 (arun p n) fuel a0_0 rec ((i : Int), ys) = _; unfold c158_3; simp only [dec_lt hi1, dec_nn, Int.toNat_natCast, at_lt hi1, at_lt hy', Option.bind_some, cond_true, call_step' f, wrap_succ hb] <;> rfl
  · show c158_3 (arun p n) fuel a0_0 rec (((List.length a0_0 : Nat) : Int), a0_0) = _; unfold c158_3; simp only [dec_end, cond_false] <;> rfl
theorem eq165 (a0_0 : List (Row K48)) (hs : Small K63 (a0_0, ())) : Ran p 5 165 [.val false ⟨K63, (a0_0, ())⟩, .val false ⟨K63, (a0_0, ())⟩] ⟨[⟨K4, (true, ())⟩], []⟩ := go165 fun n hn => by
  have hl : List.length a0_0 ≤ 1048576 := (ssl hs).1
  refine Ev.eq (fun fuel => by unfold T165; simp only [bne_self_eq_false, cond_false]; rfl) ?_
  refine It.ev (c := fun fuel (_ : Unit) => c165_4 (arun p n) fuel a0_0 a0_0) (i := ()) (r := fun _ => some ⟨[⟨K4, (true, ())⟩], []⟩) ?_ rfl
  refine eq_loop a0_0.length (fun i => (i : Int)) (fun i hi fuel a rec => ?_) (fun fuel a rec => ?_)
  · have f := eq29 a0_0[i] ((ssl hs).2 i a0_0[i] (at_lt hi)) n (by omega)
    show c165_4 (arun p n) fuel a0_0 a0_0 rec (i : Int) = _; unfold c165_4; simp only [dec_lt hi, dec_nn, Int.toNat_natCast, at_lt hi, Option.bind_some, cond_true, cond_false, bne_self_eq_false, Bool.not_true, call_step' f, wrap_succ (show i < 9223372036854775807 by omega)]
  · show c165_4 (arun p n) fuel a0_0 a0_0 rec ((List.length a0_0 : Nat) : Int) = _; unfold c165_4; simp only [dec_end, cond_false]
theorem sz38 (a0_0 : List (Row K112)) (left : Int) (hok : ROkay K24 (a0_0, ())) (h0 : 0 ≤ left) (h1 : left ≤ 1048576) : ∃ r : Int, Ran p 6 38 [.val false ⟨K24, (a0_0, ())⟩, .val false ⟨K3, (left, ())⟩] ⟨[⟨K3, (r, ())⟩], []⟩ ∧ (0 ≤ r → r ≤ left ∧ Small K24 (a0_0, ())) := by
  have hl : ((List.length a0_0 : Nat) : Int) ≤ 9223372036854775807 := by have := (rsl hok).1; exact Int.ofNat_le.2 this
  have hw : IntKind.i64.wrap (left - ((List.length a0_0 : Nat) : Int)) = left - ((List.length a0_0 : Nat) : Int) := wrap64 (by omega) (by omega)
  by_cases hn : left - ((List.length a0_0 : Nat) : Int) < 0
  · exact ⟨-1, go38 fun n hn' => Ev.now fun fuel => by unfold T38; rw [hw]; exact bif_pos hn, by omega⟩
  · refine szl_fact (p := p) (lvl := 5) (xs := a0_0) (S := fun r => Small K112 r) (st := fun (i : Nat) (l : Int) => (l, (i : Int))) (W := fun n fuel => T38 (arun p n) fuel a0_0 left) (c := fun n fuel (_ : Unit) => c38_5 (arun p n) fuel a0_0) (l0 := left - ((List.length a0_0 : Nat) : Int)) (f := fun x l => [.val true ⟨K112, x⟩, .val false ⟨K3, (l, ())⟩]) (q := 83) (r0 := fun r => ⟨[⟨K3, (r, ())⟩], []⟩) ?_ ?_ ?_ ?_ (by omega) (by omega) (fun r hr hp => ⟨r, go38 fun n hn => hr n hn, fun h => ⟨by have := (hp h).1; omega, ssm (Int.ofNat_le.1 (by show _ ≤ (1048576 : Int); omega)) fun i r hr => ?_⟩⟩)
    · intro i hi l h2 h3; obtain ⟨r, f, g⟩ := sz83 a0_0[i] l ((rsl hok).2 i a0_0[i] (at_lt hi)) h2 h3; exact ⟨r, g, fun n hn => f n (by omega)⟩
    · intro n _ fuel; show T38 (arun p n) fuel a0_0 left = _; unfold T38; rw [hw]; exact bif_neg hn
    · intro n fuel a rec i hi l r hr; replace hr : arun p n 83 [.val true ⟨K112, a0_0[i]⟩, .val false ⟨K3, (l, ())⟩] = some ⟨[⟨K3, (r, ())⟩], []⟩ := hr; show c38_5 (arun p n) fuel a0_0 rec (l, (i : Int)) = _; unfold c38_5; simp only [dec_lt hi, dec_nn, Int.toNat_natCast, at_lt hi, Option.bind_some, cond_true, call_step' hr, wrap_succ (show i < 9223372036854775807 by omega)]
    · intro n fuel a rec l; show c38_5 (arun p n) fuel a0_0 rec (l, ((List.length a0_0 : Nat) : Int)) = _; unfold c38_5; simp only [dec_end, cond_false]
    · obtain ⟨hi, rfl⟩ := at_some hr; have := (hp h).2 i hi; exact this
theorem to44 (a0_0 : List (Row K112)) (hs : Small K24 (a0_0, ())) : Ran p 6 44 [.val false ⟨K24, (a0_0, ())⟩] ⟨[⟨K31, (a0_0, ())⟩], []⟩ := go44 fun n hn => by
  have hl : List.length a0_0 ≤ 1048576 := (ssl hs).1
  refine Ev.eq (fun fuel => by unfold T44; exact bif_and3 (Int.natCast_nonneg _) (Int.ofNat_le.2 (Nat.le_trans hl (by decide))) rfl) ?_
  refine It.ev (c := fun fuel (_ : Unit) => c44_3 (arun p n) fuel a0_0) (i := ()) (r := fun _ => some ⟨[⟨K31, (a0_0, ())⟩], []⟩) ?_ rfl
  refine to_loop (α := Row K117) a0_0 (zeroRow K117) (fun i ys => ((i : Int), ys)) (fun i hi ys hy fuel a rec => ?_) (fun fuel a rec => ?_)
  · have hy' : i < ys.length := by rw [hy]; exact hi
    have hi1 : i < List.length (α := Row K112) a0_0 := hi
    have hb : i < 9223372036854775807 := Nat.lt_of_lt_of_le hi (Nat.le_trans hl (by decide))
    have f := to89 a0_0[i] ((ssl hs).2 i a0_0[i] (at_lt hi)) n (by omega)
    show c44_3 (arun p n) fuel a0_0 rec ((i : Int), ys) = _; unfold c44_3; simp only [dec_lt hi1, dec_nn, Int.toNat_natCast, at_lt hi1, at_lt hy', Option.bind_some, cond_true, call_step' f, wrap_succ hb] <;> rfl
  · show c44_3 (arun p n) fuel a0_0 rec (((List.length a0_0 : Nat) : Int), a0_0) = _; unfold c44_3; simp only [dec_end, cond_false] <;> rfl
theorem eq49 (a0_0 : List (Row K117)) (hs : Small K31 (a0_0, ())) : Ran p 6 49 [.val false ⟨K31, (a0_0, ())⟩, .val false ⟨K31, (a0_0, ())⟩] ⟨[⟨K4, (true, ())⟩], []⟩ := go49 fun n hn => by
  have hl : List.length a0_0 ≤ 1048576 := (ssl hs).1
  refine Ev.eq (fun fuel => by unfold T49; simp only [bne_self_eq_false, cond_false]; rfl) ?_
  refine It.ev (c := fun fuel (_ : Unit) => c49_4 (arun p n) fuel a0_0 a0_0) (i := ()) (r := fun _ => some ⟨[⟨K4, (true, ())⟩], []⟩) ?_ rfl
  refine eq_loop a0_0.length (fun i => (i : Int)) (fun i hi fuel a rec => ?_) (fun fuel a rec => ?_)
  · have f := eq96 a0_0[i] ((ssl hs).2 i a0_0[i] (at_lt hi)) n (by omega)
    show c49_4 (arun p n) fuel a0_0 a0_0 rec (i : Int) = _; unfold c49_4; simp only [dec_lt hi, dec_nn, Int.toNat_natCast, at_lt hi, Option.bind_some, cond_true, cond_false, bne_self_eq_false, Bool.not_true, call_step' f, wrap_succ (show i < 9223372036854775807 by omega)]
  · show c49_4 (arun p n) fuel a0_0 a0_0 rec ((List.length a0_0 : Nat) : Int) = _; unfold c49_4; simp only [dec_end, cond_false]
theorem sz116 (a0 : Row K101) (left : Int) (hok : ROkay K101 a0) (h0 : 0 ≤ left) (h1 : left ≤ 1048576) : ∃ r : Int, Ran p 6 116 [.val true ⟨K101, a0⟩, .val false ⟨K3, (left, ())⟩] ⟨[⟨K3, (r, ())⟩], []⟩ ∧ (0 ≤ r → r ≤ left ∧ Small K101 a0) := by
  obtain ⟨r0, f0, g0⟩ := sz155 (@vL K42 a0.2.2.1) left (rmk (rhd (rtl (rtl hok))) trivial) (by omega) (by omega)
  by_cases n0 : r0 < 0
  · exact ⟨-1, go116 fun n hn => Ev.now fun fuel => by unfold T116; exact (call_step (f0 n (by omega))).trans <| (bif_pos n0), by omega⟩
  have l0 := (g0 (by omega)).1
  have s2 := shd (g0 (by omega)).2
  exact ⟨r0, go116 fun n hn => Ev.now fun fuel => by unfold T116; exact (call_step (f0 n (by omega))).trans <| (bif_neg n0).trans <|  rfl, fun _ => ⟨by omega, (smk trivial (smk trivial (smk s2 trivial)))⟩⟩
theorem to128 (a0 : Row K101) (hs : Small K101 a0) : Ran p 6 128 [.val true ⟨K101, a0⟩] ⟨[⟨K65, a0⟩], []⟩ := go128 fun n hn => Ev.now fun fuel => by
  unfold T128; exact (call_step (to158 (@vL K42 a0.2.2.1) (smk (shd (stl (stl hs))) trivial) n (by omega))).trans <|  rfl
theorem eq142 (a0 : Row K65) (hs : Small K65 a0) : Ran p 6 142 [.val true ⟨K65, a0⟩, .val true ⟨K65, a0⟩] ⟨[⟨K4, (true, ())⟩], []⟩ := go142 fun n hn => Ev.now fun fuel => by
  have f0 := eq165 (@vL K48 a0.2.2.1) (smk (shd (stl (stl hs))) trivial) n (by omega)
  unfold T142; simp only [call_step' f0, bne_self_eq_false, beq_self_eq_true, beqB_self, Bool.not_true, cond_false, cond_true]
theorem sz81 (a0 : Row K105) (left : Int) (hok : ROkay K105 a0) (h0 : 0 ≤ left) (h1 : left ≤ 1048576) : ∃ r : Int, Ran p 7 81 [.val true ⟨K105, a0⟩, .val false ⟨K3, (left, ())⟩] ⟨[⟨K3, (r, ())⟩], []⟩ ∧ (0 ≤ r → r ≤ left ∧ Small K105 a0) := by
  obtain ⟨r0, f0, g0⟩ := sz25 ((@vL K132 a0.2.2.1), (@vL K137 a0.2.2.2.1), ()) left (rmk (rhd (rtl (rtl hok))) (rmk (rhd (rtl (rtl (rtl hok)))) trivial)) (by omega) (by omega)
  by_cases n0 : r0 < 0
  · exact ⟨-1, go81 fun n hn => Ev.now fun fuel => by unfold T81; exact (call_step (f0 n (by omega))).trans <| (bif_pos n0), by omega⟩
  have l0 := (g0 (by omega)).1
  have s2 := shd (g0 (by omega)).2
  have s3 := shd (stl (g0 (by omega)).2)
  obtain ⟨r1, f1, g1⟩ := sz115 ((@vL K3 a0.2.2.2.2.1), (vI a0.2.2.2.2.2.1), ()) r0 (rmk (rhd (rtl (rtl (rtl (rtl hok))))) (rmk (rhd (rtl (rtl (rtl (rtl (rtl hok)))))) trivial)) (by omega) (by omega)
  by_cases n1 : r1 < 0
  · exact ⟨-1, go81 fun n hn => Ev.now fun fuel => by unfold T81; exact (call_step (f0 n (by omega))).trans <| (bif_neg n0).trans <| (call_step (f1 n (by omega))).trans <| (bif_pos n1), by omega⟩
  have l1 := (g1 (by omega)).1
  have s4 := shd (g1 (by omega)).2
  have s5 := shd (stl (g1 (by omega)).2)
  obtain ⟨r2, f2, g2⟩ := sz116 ((vI a0.2.2.2.2.2.2.1), (vI a0.2.2.2.2.2.2.2.1), (@vL K42 a0.2.2.2.2.2.2.2.2.1), ()) r1 (rmk (rhd (rtl (rtl (rtl (rtl (rtl (rtl hok))))))) (rmk (rhd (rtl (rtl (rtl (rtl (rtl (rtl (rtl hok)))))))) (rmk (rhd (rtl (rtl (rtl (rtl (rtl (rtl (rtl (rtl hok))))))))) trivial))) (by omega) (by omega)
  by_cases n2 : r2 < 0
  · exact ⟨-1, go81 fun n hn => Ev.now fun fuel => by unfold T81; exact (call_step (f0 n (by omega))).trans <| (bif_neg n0).trans <| (call_step (f1 n (by omega))).trans <| (bif_neg n1).trans <| (call_step (f2 n (by omega))).trans <| (bif_pos n2), by omega⟩
  have l2 := (g2 (by omega)).1
  have s6 := shd (g2 (by omega)).2
  have s7 := shd (stl (g2 (by omega)).2)
  have s8 := shd (stl (stl (g2 (by omega)).2))
  obtain ⟨r3, f3, g3⟩ := sz117 (@vL K3 a0.2.2.2.2.2.2.2.2.2.1) r2 (rmk (rhd (rtl (rtl (rtl (rtl (rtl (rtl (rtl (rtl (rtl hok)))))))))) trivial) (by omega) (by omega)
  by_cases n3 : r3 < 0
  · exact ⟨-1, go81 fun n hn => Ev.now fun fuel => by unfold T81; exact (call_step (f0 n (by omega))).trans <| (bif_neg n0).trans <| (call_step (f1 n (by omega))).trans <| (bif_neg n1).trans <| (call_step (f2 n (by omega))).trans <| (bif_neg n2).trans <| (call_step (f3 n (by omega))).trans <| (bif_pos n3), by omega⟩
  have l3 := (g3 (by omega)).1
  have s9 := shd (g3 (by omega)).2
  obtain ⟨r4, f4, g4⟩ := sz117 (@vL K3 a0.2.2.2.2.2.2.2.2.2.2.1) r3 (rmk (rhd (rtl (rtl (rtl (rtl (rtl (rtl (rtl (rtl (rtl (rtl hok))))))))))) trivial) (by omega) (by omega)
  by_cases n4 : r4 < 0
  · exact ⟨-1, go81 fun n hn => Ev.now fun fuel => by unfold T81; exact (call_step (f0 n (by omega))).trans <| (bif_neg n0).trans <| (call_step (f1 n (by omega))).trans <| (bif_neg n1).trans <| (call_step (f2 n (by omega))).trans <| (bif_neg n2).trans <| (call_step (f3 n (by omega))).trans <| (bif_neg n3).trans <| (call_step (f4 n (by omega))).trans <| (bif_pos n4), by omega⟩
  have l4 := (g4 (by omega)).1
  have s10 := shd (g4 (by omega)).2
  obtain ⟨r5, f5, g5⟩ := sz118 (@vL K60 a0.2.2.2.2.2.2.2.2.2.2.2.1) r4 (rmk (rhd (rtl (rtl (rtl (rtl (rtl (rtl (rtl (rtl (rtl (rtl (rtl hok)))))))))))) trivial) (by omega) (by omega)
  by_cases n5 : r5 < 0
  · exact ⟨-1, go81 fun n hn => Ev.now fun fuel => by unfold T81; exact (call_step (f0 n (by omega))).trans <| (bif_neg n0).trans <| (call_step (f1 n (by omega))).trans <| (bif_neg n1).trans <| (call_step (f2 n (by omega))).trans <| (bif_neg n2).trans <| (call_step (f3 n (by omega))).trans <| (bif_neg n3).trans <| (call_step (f4 n (by omega))).trans <| (bif_neg n4).trans <| (call_step (f5 n (by omega))).trans <| (bif_pos n5), by omega⟩
  have l5 := (g5 (by omega)).1
  have s11 := shd (g5 (by omega)).2
  obtain ⟨r6, f6, g6⟩ := sz119 (@vL K177 a0.2.2.2.2.2.2.2.2.2.2.2.2.2.2.1) r5 (rmk (rhd (rtl (rtl (rtl (rtl (rtl (rtl (rtl (rtl (rtl (rtl (rtl (rtl (rtl (rtl hok))))))))))))))) trivial) (by omega) (by omega)
  by_cases n6 : r6 < 0
  · exact ⟨-1, go81 fun n hn => Ev.now fun fuel => by unfold T81; exact (call_step (f0 n (by omega))).trans <| (bif_neg n0).trans <| (call_step (f1 n (by omega))).trans <| (bif_neg n1).trans <| (call_step (f2 n (by omega))).trans <| (bif_neg n2).trans <| (call_step (f3 n (by omega))).trans <| (bif_neg n3).trans <| (call_step (f4 n (by omega))).trans <| (bif_neg n4).trans <| (call_step (f5 n (by omega))).trans <| (bif_neg n5).trans <| (call_step (f6 n (by omega))).trans <| (bif_pos n6), by omega⟩
  have l6 := (g6 (by omega)).1
  have s14 := shd (g6 (by omega)).2
  obtain ⟨r7, f7, g7⟩ := sz120 (@vL K179 a0.2.2.2.2.2.2.2.2.2.2.2.2.2.2.2.2.2.2.1) r6 (rmk (rhd (rtl (rtl (rtl (rtl (rtl (rtl (rtl (rtl (rtl (rtl (rtl (rtl (rtl (rtl (rtl (rtl (rtl (rtl hok))))))))))))))))))) trivial) (by omega) (by omega)
  by_cases n7 : r7 < 0
  · exact ⟨-1, go81 fun n hn => Ev.now fun fuel => by unfold T81; exact (call_step (f0 n (by omega))).trans <| (bif_neg n0).trans <| (call_step (f1 n (by omega))).trans <| (bif_neg n1).trans <| (call_step (f2 n (by omega))).trans <| (bif_neg n2).trans <| (call_step (f3 n (by omega))).trans <| (bif_neg n3).trans <| (call_step (f4 n (by omega))).trans <| (bif_neg n4).trans <| (call_step (f5 n (by omega))).trans <| (bif_neg n5).trans <| (call_step (f6 n (by omega))).trans <| (bif_neg n6).trans <| (call_step (f7 n (by omega))).trans <| (bif_pos n7), by omega⟩
  have l7 := (g7 (by omega)).1
  have s18 := shd (g7 (by omega)).2
  exact ⟨r7, go81 fun n hn => Ev.now fun fuel => by unfold T81; exact (call_step (f0 n (by omega))).trans <| (bif_neg n0).trans <| (call_step (f1 n (by omega))).trans <| (bif_neg n1).trans <| (call_step (f2 n (by omega))).trans <| (bif_neg n2).trans <| (call_step (f3 n (by omega))).trans <| (bif_neg n3).trans <| (call_step (f4 n (by omega))).trans <| (bif_neg n4).trans <| (call_step (f5 n (by omega))).trans <| (bif_neg n5).trans <| (call_step (f6 n (by omega))).trans <| (bif_neg n6).trans <| (call_step (f7 n (by omega))).trans <| (bif_neg n7).trans <|  rfl, fun _ => ⟨by omega, (smk trivial (smk trivial (smk s2 (smk s3 (smk s4 (smk s5 (smk s6 (smk s7 (smk s8 (smk s9 (smk s10 (smk s11 (smk trivial (smk trivial (smk s14 (smk trivial (smk trivial (smk trivial (smk s18 trivial)))))))))))))))))))⟩⟩
theorem to87 (a0 : Row K105) (hs : Small K105 a0) : Ran p 7 87 [.val true ⟨K105, a0⟩] ⟨[⟨K70, a0⟩], []⟩ := go87 fun n hn => Ev.now fun fuel => by
  unfold T87; exact (call_step (to27 ((@vL K132 a0.2.2.1), (@vL K137 a0.2.2.2.1), ()) (smk (shd (stl (stl hs))) (smk (shd (stl (stl (stl hs)))) trivial)) n (by omega))).trans <| (call_step (to127 ((@vL K3 a0.2.2.2.2.1), (vI a0.2.2.2.2.2.1), ()) (smk (shd (stl (stl (stl (stl hs))))) (smk (shd (stl (stl (stl (stl (stl hs)))))) trivial)) n (by omega))).trans <| (call_step (to128 ((vI a0.2.2.2.2.2.2.1), (vI a0.2.2.2.2.2.2.2.1), (@vL K42 a0.2.2.2.2.2.2.2.2.1), ()) (smk (shd (stl (stl (stl (stl (stl (stl hs))))))) (smk (shd (stl (stl (stl (stl (stl (stl (stl hs)))))))) (smk (shd (stl (stl (stl (stl (stl (stl (stl (stl hs))))))))) trivial))) n (by omega))).trans <| (call_step (to129 (@vL K3 a0.2.2.2.2.2.2.2.2.2.1) (smk (shd (stl (stl (stl (stl (stl (stl (stl (stl (stl hs)))))))))) trivial) n (by omega))).trans <| (call_step (to129 (@vL K3 a0.2.2.2.2.2.2.2.2.2.2.1) (smk (shd (stl (stl (stl (stl (stl (stl (stl (stl (stl (stl hs))))))))))) trivial) n (by omega))).trans <| (call_step (to130 (@vL K60 a0.2.2.2.2.2.2.2.2.2.2.2.1) (smk (shd (stl (stl (stl (stl (stl (stl (stl (stl (stl (stl (stl hs)))))))))))) trivial) n (by omega))).trans <| (call_step (to131 (@vL K177 a0.2.2.2.2.2.2.2.2.2.2.2.2.2.2.1) (smk (shd (stl (stl (stl (stl (stl (stl (stl (stl (stl (stl (stl (stl (stl (stl hs))))))))))))))) trivial) n (by omega))).trans <| (call_step (to132 (@vL K179 a0.2.2.2.2.2.2.2.2.2.2.2.2.2.2.2.2.2.2.1) (smk (shd (stl (stl (stl (stl (stl (stl (stl (stl (stl (stl (stl (stl (stl (stl (stl (stl (stl (stl hs))))))))))))))))))) trivial) n (by omega))).trans <|  rfl
theorem eq94 (a0 : Row K70) (hs : Small K70 a0) : Ran p 7 94 [.val true ⟨K70, a0⟩, .val true ⟨K70, a0⟩] ⟨[⟨K4, (true, ())⟩], []⟩ := go94 fun n hn => Ev.now fun fuel => by
  have f0 := eq29 ((@vL K95 a0.2.2.1), (@vL K80 a0.2.2.2.1), ()) (smk (shd (stl (stl hs))) (smk (shd (stl (stl (stl hs)))) trivial)) n (by omega)
  have f1 := eq141 ((@vL K3 a0.2.2.2.2.1), (vI a0.2.2.2.2.2.1), ()) (smk (shd (stl (stl (stl (stl hs))))) (smk (shd (stl (stl (stl (stl (stl hs)))))) trivial)) n (by omega)
  have f2 := eq142 ((vI a0.2.2.2.2.2.2.1), (vI a0.2.2.2.2.2.2.2.1), (@vL K48 a0.2.2.2.2.2.2.2.2.1), ()) (smk (shd (stl (stl (stl (stl (stl (stl hs))))))) (smk (shd (stl (stl (stl (stl (stl (stl (stl hs)))))))) (smk (shd (stl (stl (stl (stl (stl (stl (stl (stl hs))))))))) trivial))) n (by omega)
  have f3 := eq143 (@vL K3 a0.2.2.2.2.2.2.2.2.2.1) (smk (shd (stl (stl (stl (stl (stl (stl (stl (stl (stl hs)))))))))) trivial) n (by omega)
  have f4 := eq143 (@vL K3 a0.2.2.2.2.2.2.2.2.2.2.1) (smk (shd (stl (stl (stl (stl (stl (stl (stl (stl (stl (stl hs))))))))))) trivial) n (by omega)
  have f5 := eq144 (@vL K60 a0.2.2.2.2.2.2.2.2.2.2.2.1) (smk (shd (stl (stl (stl (stl (stl (stl (stl (stl (stl (stl (stl hs)))))))))))) trivial) n (by omega)
  have f6 := eq145 (@vL K174 a0.2.2.2.2.2.2.2.2.2.2.2.2.2.2.1) (smk (shd (stl (stl (stl (stl (stl (stl (stl (stl (stl (stl (stl (stl (stl (stl hs))))))))))))))) trivial) n (by omega)
  have f7 := eq146 (@vL K152 a0.2.2.2.2.2.2.2.2.2.2.2.2.2.2.2.2.2.2.1) (smk (shd (stl (stl (stl (stl (stl (stl (stl (stl (stl (stl (stl (stl (stl (stl (stl (stl (stl (stl hs))))))))))))))))))) trivial) n (by omega)
  unfold T94; simp only [call_step' f0, call_step' f1, call_step' f2, call_step' f3, call_step' f4, call_step' f5, call_step' f6, call_step' f7, bne_self_eq_false, beq_self_eq_true, beqB_self, Bool.not_true, cond_false, cond_true]
theorem sz36 (a0_0 : List (Row K105)) (left : Int) (hok : ROkay K22 (a0_0, ())) (h0 : 0 ≤ left) (h1 : left ≤ 1048576) : ∃ r : Int, Ran p 8 36 [.val false ⟨K22, (a0_0, ())⟩, .val false ⟨K3, (left, ())⟩] ⟨[⟨K3, (r, ())⟩], []⟩ ∧ (0 ≤ r → r ≤ left ∧ Small K22 (a0_0, ())) := by
  have hl : ((List.length a0_0 : Nat) : Int) ≤ 9223372036854775807 := by have := (rsl hok).1; exact Int.ofNat_le.2 this
  have hw : IntKind.i64.wrap (left - ((List.length a0_0 : Nat) : Int)) = left - ((List.length a0_0 : Nat) : Int) := wrap64 (by omega) (by omega)
  by_cases hn : left - ((List.length a0_0 : Nat) : Int) < 0
  · exact ⟨-1, go36 fun n hn' => Ev.now fun fuel => by unfold T36; rw [hw]; exact bif_pos hn, by omega⟩
  · refine szl_fact (p := p) (lvl := 7) (xs := a0_0) (S := fun r => Small K105 r) (st := fun (i : Nat) (l : Int) => (l, (i : Int))) (W := fun n fuel => T36 (arun p n) fuel a0_0 left) (c := fun n fuel (_ : Unit) => c36_5 (arun p n) fuel a0_0) (l0 := left - ((List.length a0_0 : Nat) : Int)) (f := fun x l => [.val true ⟨K105, x⟩, .val false ⟨K3, (l, ())⟩]) (q := 81) (r0 := fun r => ⟨[⟨K3, (r, ())⟩], []⟩) ?_ ?_ ?_ ?_ (by omega) (by omega) (fun r hr hp => ⟨r, go36 fun n hn => hr n hn, fun h => ⟨by have := (hp h).1; omega, ssm (Int.ofNat_le.1 (by show _ ≤ (1048576 : Int); omega)) fun i r hr => ?_⟩⟩)
    · intro i hi l h2 h3; obtain ⟨r, f, g⟩ := sz81 a0_0[i] l ((rsl hok).2 i a0_0[i] (at_lt hi)) h2 h3; exact ⟨r, g, fun n hn => f n (by omega)⟩
    · intro n _ fuel; show T36 (arun p n) fuel a0_0 left = _; unfold T36; rw [hw]; exact bif_neg hn
    · intro n fuel a rec i hi l r hr; replace hr : arun p n 81 [.val true ⟨K105, a0_0[i]⟩, .val false ⟨K3, (l, ())⟩] = some ⟨[⟨K3, (r, ())⟩], []⟩ := hr; show c36_5 (arun p n) fuel a0_0 rec (l, (i : Int)) = _; unfold c36_5; simp only [dec_lt hi, dec_nn, Int.toNat_natCast, at_lt hi, Option.bind_some, cond_true, call_step' hr, wrap_succ (show i < 9223372036854775807 by omega)]
    · intro n fuel a rec l; show c36_5 (arun p n) fuel a0_0 rec (l, ((List.length a0_0 : Nat) : Int)) = _; unfold c36_5; simp only [dec_end, cond_false]
    · obtain ⟨hi, rfl⟩ := at_some hr; have := (hp h).2 i hi; exact this
theorem to42 (a0_0 : List (Row K105)) (hs : Small K22 (a0_0, ())) : Ran p 8 42 [.val false ⟨K22, (a0_0, ())⟩] ⟨[⟨K29, (a0_0, ())⟩], []⟩ := go42 fun n hn => by
  have hl : List.length a0_0 ≤ 1048576 := (ssl hs).1
  refine Ev.eq (fun fuel => by unfold T42; exact bif_and3 (Int.natCast_nonneg _) (Int.ofNat_le.2 (Nat.le_trans hl (by decide))) rfl) ?_
  refine It.ev (c := fun fuel (_ : Unit) => c42_3 (arun p n) fuel a0_0) (i := ()) (r := fun _ => some ⟨[⟨K29, (a0_0, ())⟩], []⟩) ?_ rfl
  refine to_loop (α := Row K70) a0_0 (zeroRow K70) (fun i ys => ((i : Int), ys)) (fun i hi ys hy fuel a rec => ?_) (fun fuel a rec => ?_)
  · have hy' : i < ys.length := by rw [hy]; exact hi
    have hi1 : i < List.length (α := Row K105) a0_0 := hi
    have hb : i < 9223372036854775807 := Nat.lt_of_lt_of_le hi (Nat.le_trans hl (by decide))
    have f := to87 a0_0[i] ((ssl hs).2 i a0_0[i] (at_lt hi)) n (by omega)
    show c42_3 (arun p n) fuel a0_0 rec ((i : Int), ys) = _; unfold c42_3; simp only [dec_lt hi1, dec_nn, Int.toNat_natCast, at_lt hi1, at_lt hy', Option.bind_some, cond_true, call_step' f, wrap_succ hb] <;> rfl
  · show c42_3 (arun p n) fuel a0_0 rec (((List.length a0_0 : Nat) : Int), a0_0) = _; unfold c42_3; simp only [dec_end, cond_false] <;> rfl
theorem eq47 (a0_0 : List (Row K70)) (hs : Small K29 (a0_0, ())) : Ran p 8 47 [.val false ⟨K29, (a0_0, ())⟩, .val false ⟨K29, (a0_0, ())⟩] ⟨[⟨K4, (true, ())⟩], []⟩ := go47 fun n hn => by
  have hl : List.length a0_0 ≤ 1048576 := (ssl hs).1
  refine Ev.eq (fun fuel => by unfold T47; simp only [bne_self_eq_false, cond_false]; rfl) ?_
  refine It.ev (c := fun fuel (_ : Unit) => c47_4 (arun p n) fuel a0_0 a0_0) (i := ()) (r := fun _ => some ⟨[⟨K4, (true, ())⟩], []⟩) ?_ rfl
  refine eq_loop a0_0.length (fun i => (i : Int)) (fun i hi fuel a rec => ?_) (fun fuel a rec => ?_)
  · have f := eq94 a0_0[i] ((ssl hs).2 i a0_0[i] (at_lt hi)) n (by omega)
    show c47_4 (arun p n) fuel a0_0 a0_0 rec (i : Int) = _; unfold c47_4; simp only [dec_lt hi, dec_nn, Int.toNat_natCast, at_lt hi, Option.bind_some, cond_true, cond_false, bne_self_eq_false, Bool.not_true, call_step' f, wrap_succ (show i < 9223372036854775807 by omega)]
  · show c47_4 (arun p n) fuel a0_0 a0_0 rec ((List.length a0_0 : Nat) : Int) = _; unfold c47_4; simp only [dec_end, cond_false]
theorem sz12 (a0 : Row K26) (left : Int) (hok : ROkay K26 a0) (h0 : 0 ≤ left) (h1 : left ≤ 1048576) : ∃ r : Int, Ran p 9 12 [.val true ⟨K26, a0⟩, .val false ⟨K3, (left, ())⟩] ⟨[⟨K3, (r, ())⟩], []⟩ ∧ (0 ≤ r → r ≤ left ∧ Small K26 a0) := by
  obtain ⟨r0, f0, g0⟩ := sz36 (@vL K105 a0.1) left (rmk (rhd hok) trivial) (by omega) (by omega)
  by_cases n0 : r0 < 0
  · exact ⟨-1, go12 fun n hn => Ev.now fun fuel => by unfold T12; exact (call_step (f0 n (by omega))).trans <| (bif_pos n0), by omega⟩
  have l0 := (g0 (by omega)).1
  have s0 := shd (g0 (by omega)).2
  obtain ⟨r1, f1, g1⟩ := sz37 (@vL K109 a0.2.1) r0 (rmk (rhd (rtl hok)) trivial) (by omega) (by omega)
  by_cases n1 : r1 < 0
  · exact ⟨-1, go12 fun n hn => Ev.now fun fuel => by unfold T12; exact (call_step (f0 n (by omega))).trans <| (bif_neg n0).trans <| (call_step (f1 n (by omega))).trans <| (bif_pos n1), by omega⟩
  have l1 := (g1 (by omega)).1
  have s1 := shd (g1 (by omega)).2
  obtain ⟨r2, f2, g2⟩ := sz38 (@vL K112 a0.2.2.1) r1 (rmk (rhd (rtl (rtl hok))) trivial) (by omega) (by omega)
  by_cases n2 : r2 < 0
  · exact ⟨-1, go12 fun n hn => Ev.now fun fuel => by unfold T12; exact (call_step (f0 n (by omega))).trans <| (bif_neg n0).trans <| (call_step (f1 n (by omega))).trans <| (bif_neg n1).trans <| (call_step (f2 n (by omega))).trans <| (bif_pos n2), by omega⟩
  have l2 := (g2 (by omega)).1
  have s2 := shd (g2 (by omega)).2
  exact ⟨r2, go12 fun n hn => Ev.now fun fuel => by unfold T12; exact (call_step (f0 n (by omega))).trans <| (bif_neg n0).trans <| (call_step (f1 n (by omega))).trans <| (bif_neg n1).trans <| (call_step (f2 n (by omega))).trans <| (bif_neg n2).trans <|  rfl, fun _ => ⟨by omega, (smk s0 (smk s1 (smk s2 trivial)))⟩⟩
theorem to14 (a0 : Row K26) (hs : Small K26 a0) : Ran p 9 14 [.val true ⟨K26, a0⟩] ⟨[⟨K33, a0⟩], []⟩ := go14 fun n hn => Ev.now fun fuel => by
  unfold T14; exact (call_step (to42 (@vL K105 a0.1) (smk (shd hs) trivial) n (by omega))).trans <| (call_step (to43 (@vL K109 a0.2.1) (smk (shd (stl hs)) trivial) n (by omega))).trans <| (call_step (to44 (@vL K112 a0.2.2.1) (smk (shd (stl (stl hs))) trivial) n (by omega))).trans <|  rfl
theorem eq16 (a0 : Row K33) (hs : Small K33 a0) : Ran p 9 16 [.val true ⟨K33, a0⟩, .val true ⟨K33, a0⟩] ⟨[⟨K4, (true, ())⟩], []⟩ := go16 fun n hn => Ev.now fun fuel => by
  have f0 := eq47 (@vL K70 a0.1) (smk (shd hs) trivial) n (by omega)
  have f1 := eq48 (@vL K115 a0.2.1) (smk (shd (stl hs)) trivial) n (by omega)
  have f2 := eq49 (@vL K117 a0.2.2.1) (smk (shd (stl (stl hs))) trivial) n (by omega)
  unfold T16; simp only [call_step' f0, call_step' f1, call_step' f2, bne_self_eq_false, beq_self_eq_true, beqB_self, Bool.not_true, cond_false, cond_true]
end Go.Abs.Vz
