/- What the functions of this program answer, part a. -/
import Derived.Test.YthgbmlfjiagadaaGreatXr0
import Derived.Test.YthgbmlfjiagadaaGreatXr1
import Derived.Test.YthgbmlfjiagadaaGreatW1
set_option linter.unusedVariables false
set_option linter.unusedSimpArgs false
namespace Go.Abs.Tz
open Go Go.Abs
theorem to24 (a0_0 : List (Row K3)) (hs : Small K41 (a0_0, ())) : Ran p 1 24 [.val false ⟨K41, (a0_0, ())⟩] ⟨[⟨K41, (a0_0, ())⟩], []⟩ := go24 fun n hn => by
  have hl : List.length a0_0 ≤ 1048576 := (ssl hs).1
  refine Ev.eq (fun fuel => by unfold T24; exact bif_and3 (Int.natCast_nonneg _) (Int.ofNat_le.2 (Nat.le_trans hl (by decide))) rfl) ?_
  refine It.ev (c := fun fuel (_ : Unit) => c24_3 (arun p n) fuel a0_0) (i := ()) (r := fun _ => some ⟨[⟨K41, (a0_0, ())⟩], []⟩) ?_ rfl
  refine to_loop (α := Row K3) a0_0 (zeroRow K3) (fun i ys => ((i : Int), ys)) (fun i hi ys hy fuel a rec => ?_) (fun fuel a rec => ?_)
  · have hy' : i < ys.length := by rw [hy]; exact hi
    have hi1 : i < List.length (α := Row K3) a0_0 := hi
    have hb : i < 9223372036854775807 := Nat.lt_of_lt_of_le hi (Nat.le_trans hl (by decide))
    show c24_3 (arun p n) fuel a0_0 rec ((i : Int), ys) = _; unfold c24_3; simp only [dec_lt hi1, dec_nn, Int.toNat_natCast, at_lt hi1, at_lt hy', Option.bind_some, cond_true, wrap_succ hb] <;> rfl
  · show c24_3 (arun p n) fuel a0_0 rec (((List.length a0_0 : Nat) : Int), a0_0) = _; unfold c24_3; simp only [dec_end, cond_false] <;> rfl
theorem eq26 (a0_0 : List (Row K3)) (hs : Small K41 (a0_0, ())) : Ran p 1 26 [.val false ⟨K41, (a0_0, ())⟩, .val false ⟨K41, (a0_0, ())⟩] ⟨[⟨K4, (true, ())⟩], []⟩ := go26 fun n hn => by
  have hl : List.length a0_0 ≤ 1048576 := (ssl hs).1
  refine Ev.eq (fun fuel => by unfold T26; simp only [bne_self_eq_false, cond_false]; rfl) ?_
  refine It.ev (c := fun fuel (_ : Unit) => c26_4 (arun p n) fuel a0_0 a0_0) (i := ()) (r := fun _ => some ⟨[⟨K4, (true, ())⟩], []⟩) ?_ rfl
  refine eq_loop a0_0.length (fun i => (i : Int)) (fun i hi fuel a rec => ?_) (fun fuel a rec => ?_)
  · skip
    show c26_4 (arun p n) fuel a0_0 a0_0 rec (i : Int) = _; unfold c26_4; simp only [dec_lt hi, dec_nn, Int.toNat_natCast, at_lt hi, Option.bind_some, cond_true, cond_false, bne_self_eq_false, Bool.not_true, wrap_succ (show i < 9223372036854775807 by omega)]
  · show c26_4 (arun p n) fuel a0_0 a0_0 rec ((List.length a0_0 : Nat) : Int) = _; unfold c26_4; simp only [dec_end, cond_false]
theorem sz173 (a0_0 : List (Row K3)) (left : Int) (hok : ROkay K41 (a0_0, ())) (h0 : 0 ≤ left) (h1 : left ≤ 1048576) : ∃ r : Int, Ran p 1 173 [.val false ⟨K41, (a0_0, ())⟩, .val false ⟨K3, (left, ())⟩] ⟨[⟨K3, (r, ())⟩], []⟩ ∧ (0 ≤ r → r ≤ left ∧ Small K41 (a0_0, ())) := by
  have hl : ((List.length a0_0 : Nat) : Int) ≤ 9223372036854775807 := by have := (rsl hok).1; exact Int.ofNat_le.2 this
  have hw : IntKind.i64.wrap (left - ((List.length a0_0 : Nat) : Int)) = left - ((List.length a0_0 : Nat) : Int) := wrap64 (by omega) (by omega)
  by_cases hn : left - ((List.length a0_0 : Nat) : Int) < 0
  · exact ⟨-1, go173 fun n hn' => Ev.now fun fuel => by unfold T173; rw [hw]; exact bif_pos hn, by omega⟩
  · refine ⟨left - ((List.length a0_0 : Nat) : Int), go173 fun n hn' => Ev.now fun fuel => by unfold T173; rw [hw]; exact bif_neg hn, fun _ => ⟨by omega, ssm (Int.ofNat_le.1 (by show _ ≤ (1048576 : Int); omega)) fun i r _ => ?_⟩⟩
    exact (smk trivial trivial)
theorem sz175 (a0_0 : List (Row K239)) (left : Int) (hok : ROkay K142 (a0_0, ())) (h0 : 0 ≤ left) (h1 : left ≤ 1048576) : ∃ r : Int, Ran p 1 175 [.val false ⟨K142, (a0_0, ())⟩, .val false ⟨K3, (left, ())⟩] ⟨[⟨K3, (r, ())⟩], []⟩ ∧ (0 ≤ r → r ≤ left ∧ Small K142 (a0_0, ())) := by
  have hl : ((List.length a0_0 : Nat) : Int) ≤ 9223372036854775807 := by have := (rsl hok).1; exact Int.ofNat_le.2 this
  have hw : IntKind.i64.wrap (left - ((List.length a0_0 : Nat) : Int)) = left - ((List.length a0_0 : Nat) : Int) := wrap64 (by omega) (by omega)
  by_cases hn : left - ((List.length a0_0 : Nat) : Int) < 0
  · exact ⟨-1, go175 fun n hn' => Ev.now fun fuel => by unfold T175; rw [hw]; exact bif_pos hn, by omega⟩
  · refine ⟨left - ((List.length a0_0 : Nat) : Int), go175 fun n hn' => Ev.now fun fuel => by unfold T175; rw [hw]; exact bif_neg hn, fun _ => ⟨by omega, ssm (Int.ofNat_le.1 (by show _ ≤ (1048576 : Int); omega)) fun i r _ => ?_⟩⟩
    exact (smk trivial (smk trivial (smk trivial (smk trivial trivial))))
theorem sz176 (a0_0 : List (Row K241)) (left : Int) (hok : ROkay K143 (a0_0, ())) (h0 : 0 ≤ left) (h1 : left ≤ 1048576) : ∃ r : Int, Ran p 1 176 [.val false ⟨K143, (a0_0, ())⟩, .val false ⟨K3, (left, ())⟩] ⟨[⟨K3, (r, ())⟩], []⟩ ∧ (0 ≤ r → r ≤ left ∧ Small K143 (a0_0, ())) := by
  have hl : ((List.length a0_0 : Nat) : Int) ≤ 9223372036854775807 := by have := (rsl hok).1; exact Int.ofNat_le.2 this
  have hw : IntKind.i64.wrap (left - ((List.length a0_0 : Nat) : Int)) = left - ((List.length a0_0 : Nat) : Int) := wrap64 (by omega) (by omega)
  by_cases hn : left - ((List.length a0_0 : Nat) : Int) < 0
  · exact ⟨-1, go176 fun n hn' => Ev.now fun fuel => by unfold T176; rw [hw]; exact bif_pos hn, by omega⟩
  · refine ⟨left - ((List.length a0_0 : Nat) : Int), go176 fun n hn' => Ev.now fun fuel => by unfold T176; rw [hw]; exact bif_neg hn, fun _ => ⟨by omega, ssm (Int.ofNat_le.1 (by show _ ≤ (1048576 : Int); omega)) fun i r _ => ?_⟩⟩
    exact (smk trivial (smk trivial (smk trivial trivial)))
theorem sz177 (a0_0 : List (Row K5)) (left : Int) (hok : ROkay K22 (a0_0, ())) (h0 : 0 ≤ left) (h1 : left ≤ 1048576) : ∃ r : Int, Ran p 1 177 [.val false ⟨K22, (a0_0, ())⟩, .val false ⟨K3, (left, ())⟩] ⟨[⟨K3, (r, ())⟩], []⟩ ∧ (0 ≤ r → r ≤ left ∧ Small K22 (a0_0, ())) := by
  have hl : ((List.length a0_0 : Nat) : Int) ≤ 9223372036854775807 := by have := (rsl hok).1; exact Int.ofNat_le.2 this
  have hw : IntKind.i64.wrap (left - ((List.length a0_0 : Nat) : Int)) = left - ((List.length a0_0 : Nat) : Int) := wrap64 (by omega) (by omega)
  by_cases hn : left - ((List.length a0_0 : Nat) : Int) < 0
  · exact ⟨-1, go177 fun n hn' => Ev.now fun fuel => by unfold T177; rw [hw]; exact bif_pos hn, by omega⟩
  · refine ⟨left - ((List.length a0_0 : Nat) : Int), go177 fun n hn' => Ev.now fun fuel => by unfold T177; rw [hw]; exact bif_neg hn, fun _ => ⟨by omega, ssm (Int.ofNat_le.1 (by show _ ≤ (1048576 : Int); omega)) fun i r _ => ?_⟩⟩
    exact (smk trivial trivial)
theorem to184 (a0_0 : List (Row K5)) (hs : Small K22 (a0_0, ())) : Ran p 1 184 [.val false ⟨K22, (a0_0, ())⟩] ⟨[⟨K22, (a0_0, ())⟩], []⟩ := go184 fun n hn => by
  have hl : List.length a0_0 ≤ 1048576 := (ssl hs).1
  refine Ev.eq (fun fuel => by unfold T184; exact bif_and3 (Int.natCast_nonneg _) (Int.ofNat_le.2 (Nat.le_trans hl (by decide))) rfl) ?_
  refine It.ev (c := fun fuel (_ : Unit) => c184_3 (arun p n) fuel a0_0) (i := ()) (r := fun _ => some ⟨[⟨K22, (a0_0, ())⟩], []⟩) ?_ rfl
  refine to_loop (α := Row K5) a0_0 (zeroRow K5) (fun i ys => ((i : Int), ys)) (fun i hi ys hy fuel a rec => ?_) (fun fuel a rec => ?_)
  · have hy' : i < ys.length := by rw [hy]; exact hi
    have hi1 : i < List.length (α := Row K5) a0_0 := hi
    have hb : i < 9223372036854775807 := Nat.lt_of_lt_of_le hi (Nat.le_trans hl (by decide))
    show c184_3 (arun p n) fuel a0_0 rec ((i : Int), ys) = _; unfold c184_3; simp only [dec_lt hi1, dec_nn, Int.toNat_natCast, at_lt hi1, at_lt hy', Option.bind_some, cond_true, wrap_succ hb] <;> rfl
  · show c184_3 (arun p n) fuel a0_0 rec (((List.length a0_0 : Nat) : Int), a0_0) = _; unfold c184_3; simp only [dec_end, cond_false] <;> rfl
theorem eq191 (a0_0 : List (Row K5)) (hs : Small K22 (a0_0, ())) : Ran p 1 191 [.val false ⟨K22, (a0_0, ())⟩, .val false ⟨K22, (a0_0, ())⟩] ⟨[⟨K4, (true, ())⟩], []⟩ := go191 fun n hn => by
  have hl : List.length a0_0 ≤ 1048576 := (ssl hs).1
  refine Ev.eq (fun fuel => by unfold T191; simp only [bne_self_eq_false, cond_false]; rfl) ?_
  refine It.ev (c := fun fuel (_ : Unit) => c191_4 (arun p n) fuel a0_0 a0_0) (i := ()) (r := fun _ => some ⟨[⟨K4, (true, ())⟩], []⟩) ?_ rfl
  refine eq_loop a0_0.length (fun i => (i : Int)) (fun i hi fuel a rec => ?_) (fun fuel a rec => ?_)
  · skip
    show c191_4 (arun p n) fuel a0_0 a0_0 rec (i : Int) = _; unfold c191_4; simp only [dec_lt hi, dec_nn, Int.toNat_natCast, at_lt hi, Option.bind_some, cond_true, cond_false, bne_self_eq_false, Bool.not_true, wrap_succ (show i < 9223372036854775807 by omega)]
  · show c191_4 (arun p n) fuel a0_0 a0_0 rec ((List.length a0_0 : Nat) : Int) = _; unfold c191_4; simp only [dec_end, cond_false]
theorem sz233 (a0_0 : List (Row K267)) (left : Int) (hok : ROkay K135 (a0_0, ())) (h0 : 0 ≤ left) (h1 : left ≤ 1048576) : ∃ r : Int, Ran p 1 233 [.val false ⟨K135, (a0_0, ())⟩, .val false ⟨K3, (left, ())⟩] ⟨[⟨K3, (r, ())⟩], []⟩ ∧ (0 ≤ r → r ≤ left ∧ Small K135 (a0_0, ())) := by
  have hl : ((List.length a0_0 : Nat) : Int) ≤ 9223372036854775807 := by have := (rsl hok).1; exact Int.ofNat_le.2 this
  have hw : IntKind.i64.wrap (left - ((List.length a0_0 : Nat) : Int)) = left - ((List.length a0_0 : Nat) : Int) := wrap64 (by omega) (by omega)
  by_cases hn : left - ((List.length a0_0 : Nat) : Int) < 0
  · exact ⟨-1, go233 fun n hn' => Ev.now fun fuel => by unfold T233; rw [hw]; exact bif_pos hn, by omega⟩
  · refine ⟨left - ((List.length a0_0 : Nat) : Int), go233 fun n hn' => Ev.now fun fuel => by unfold T233; rw [hw]; exact bif_neg hn, fun _ => ⟨by omega, ssm (Int.ofNat_le.1 (by show _ ≤ (1048576 : Int); omega)) fun i r _ => ?_⟩⟩
    exact (smk trivial (smk trivial trivial))
theorem to238 (a0 : Row K239) (hs : Small K239 a0) : Ran p 1 238 [.val true ⟨K239, a0⟩] ⟨[⟨K102, a0⟩], []⟩ := go238 fun n hn => Ev.now fun fuel => by
  unfold T238; exact  rfl
theorem to239 (a0 : Row K241) (hs : Small K241 a0) : Ran p 1 239 [.val true ⟨K241, a0⟩] ⟨[⟨K104, a0⟩], []⟩ := go239 fun n hn => Ev.now fun fuel => by
  unfold T239; exact  rfl
theorem eq243 (a0 : Row K102) (hs : Small K102 a0) : Ran p 1 243 [.val true ⟨K102, a0⟩, .val true ⟨K102, a0⟩] ⟨[⟨K4, (true, ())⟩], []⟩ := go243 fun n hn => Ev.now fun fuel => by
  unfold T243; simp only [bne_self_eq_false, beq_self_eq_true, beqB_self, Bool.not_true, cond_false, cond_true]
theorem eq244 (a0 : Row K104) (hs : Small K104 a0) : Ran p 1 244 [.val true ⟨K104, a0⟩, .val true ⟨K104, a0⟩] ⟨[⟨K4, (true, ())⟩], []⟩ := go244 fun n hn => Ev.now fun fuel => by
  unfold T244; simp only [bne_self_eq_false, beq_self_eq_true, beqB_self, Bool.not_true, cond_false, cond_true]
theorem to273 (a0 : Row K267) (hs : Small K267 a0) : Ran p 1 273 [.val true ⟨K267, a0⟩] ⟨[⟨K106, a0⟩], []⟩ := go273 fun n hn => Ev.now fun fuel => by
  unfold T273; exact  rfl
theorem eq275 (a0 : Row K106) (hs : Small K106 a0) : Ran p 1 275 [.val true ⟨K106, a0⟩, .val true ⟨K106, a0⟩] ⟨[⟨K4, (true, ())⟩], []⟩ := go275 fun n hn => Ev.now fun fuel => by
  unfold T275; simp only [bne_self_eq_false, beq_self_eq_true, beqB_self, Bool.not_true, cond_false, cond_true]
theorem sz295 (a0 : Row K262) (left : Int) (hok : ROkay K262 a0) (h0 : 0 ≤ left) (h1 : left ≤ 1048576) : ∃ r : Int, Ran p 1 295 [.val true ⟨K262, a0⟩, .val false ⟨K3, (left, ())⟩] ⟨[⟨K3, (r, ())⟩], []⟩ ∧ (0 ≤ r → r ≤ left ∧ Small K262 a0) := by
  have hl : ((ByteArray.size (vS a0.2.2.2.2.1) : Nat) : Int) ≤ 9223372036854775807 := by have := (rhd (rtl (rtl (rtl (rtl hok))))); exact Int.ofNat_le.2 this
  have hw : IntKind.i64.wrap (left - ((ByteArray.size (vS a0.2.2.2.2.1) : Nat) : Int)) = left - ((ByteArray.size (vS a0.2.2.2.2.1) : Nat) : Int) := wrap64 (by omega) (by omega)
  by_cases hn : left - ((ByteArray.size (vS a0.2.2.2.2.1) : Nat) : Int) < 0
  · exact ⟨-1, go295 fun n hn' => Ev.now fun fuel => by unfold T295; rw [hw]; exact bif_pos hn, by omega⟩
  · have hz : ByteArray.size (vS a0.2.2.2.2.1) ≤ small := Int.ofNat_le.1 (by show ((ByteArray.size (vS a0.2.2.2.2.1) : Nat) : Int) ≤ (1048576 : Int); omega)
    exact ⟨left - ((ByteArray.size (vS a0.2.2.2.2.1) : Nat) : Int), go295 fun n hn' => Ev.now fun fuel => by unfold T295; rw [hw]; exact bif_neg hn, fun _ => ⟨by omega, (smk trivial (smk trivial (smk trivial (smk trivial (smk hz trivial)))))⟩⟩
theorem to296 (a0 : Row K262) (hs : Small K262 a0) : Ran p 1 296 [.val true ⟨K262, a0⟩] ⟨[⟨K81, a0⟩], []⟩ := go296 fun n hn => Ev.now fun fuel => by
  unfold T296; exact  rfl
theorem eq297 (a0 : Row K81) (hs : Small K81 a0) : Ran p 1 297 [.val true ⟨K81, a0⟩, .val true ⟨K81, a0⟩] ⟨[⟨K4, (true, ())⟩], []⟩ := go297 fun n hn => Ev.now fun fuel => by
  unfold T297; simp only [bne_self_eq_false, beq_self_eq_true, beqB_self, Bool.not_true, cond_false, cond_true]
theorem sz122 (a0 : Row K147) (left : Int) (hok : ROkay K147 a0) (h0 : 0 ≤ left) (h1 : left ≤ 1048576) : ∃ r : Int, Ran p 2 122 [.val true ⟨K147, a0⟩, .val false ⟨K3, (left, ())⟩] ⟨[⟨K3, (r, ())⟩], []⟩ ∧ (0 ≤ r → r ≤ left ∧ Small K147 a0) := by
  obtain ⟨r0, f0, g0⟩ := sz177 (@vL K5 a0.2.1) left (rmk (rhd (rtl hok)) trivial) (by omega) (by omega)
  by_cases n0 : r0 < 0
  · exact ⟨-1, go122 fun n hn => Ev.now fun fuel => by unfold T122; exact (call_step (f0 n (by omega))).trans <| (bif_pos n0), by omega⟩
  have l0 := (g0 (by omega)).1
  have s1 := shd (g0 (by omega)).2
  exact ⟨r0, go122 fun n hn => Ev.now fun fuel => by unfold T122; exact (call_step (f0 n (by omega))).trans <| (bif_neg n0).trans <|  rfl, fun _ => ⟨by omega, (smk trivial (smk s1 (smk trivial trivial)))⟩⟩
theorem to125 (a0 : Row K147) (hs : Small K147 a0) : Ran p 2 125 [.val true ⟨K147, a0⟩] ⟨[⟨K67, a0⟩], []⟩ := go125 fun n hn => Ev.now fun fuel => by
  unfold T125; exact (call_step (to184 (@vL K5 a0.2.1) (smk (shd (stl hs)) trivial) n (by omega))).trans <|  rfl
theorem eq128 (a0 : Row K67) (hs : Small K67 a0) : Ran p 2 128 [.val true ⟨K67, a0⟩, .val true ⟨K67, a0⟩] ⟨[⟨K4, (true, ())⟩], []⟩ := go128 fun n hn => Ev.now fun fuel => by
  have f0 := eq191 (@vL K5 a0.2.1) (smk (shd (stl hs)) trivial) n (by omega)
  unfold T128; simp only [call_step' f0, bne_self_eq_false, beq_self_eq_true, beqB_self, Bool.not_true, cond_false, cond_true]
theorem sz171 (a0 : Row K138) (left : Int) (hok : ROkay K138 a0) (h0 : 0 ≤ left) (h1 : left ≤ 1048576) : ∃ r : Int, Ran p 2 171 [.val true ⟨K138, a0⟩, .val false ⟨K3, (left, ())⟩] ⟨[⟨K3, (r, ())⟩], []⟩ ∧ (0 ≤ r → r ≤ left ∧ Small K138 a0) := by
  obtain ⟨r0, f0, g0⟩ := sz173 (@vL K3 a0.1) left (rmk (rhd hok) trivial) (by omega) (by omega)
  by_cases n0 : r0 < 0
  · exact ⟨-1, go171 fun n hn => Ev.now fun fuel => by unfold T171; exact (call_step (f0 n (by omega))).trans <| (bif_pos n0), by omega⟩
  have l0 := (g0 (by omega)).1
  have s0 := shd (g0 (by omega)).2
  exact ⟨r0, go171 fun n hn => Ev.now fun fuel => by unfold T171; exact (call_step (f0 n (by omega))).trans <| (bif_neg n0).trans <|  rfl, fun _ => ⟨by omega, (smk s0 (smk trivial trivial))⟩⟩
theorem sz174 (a0_0 : List (Row K41)) (left : Int) (hok : ROkay K61 (a0_0, ())) (h0 : 0 ≤ left) (h1 : left ≤ 1048576) : ∃ r : Int, Ran p 2 174 [.val false ⟨K61, (a0_0, ())⟩, .val false ⟨K3, (left, ())⟩] ⟨[⟨K3, (r, ())⟩], []⟩ ∧ (0 ≤ r → r ≤ left ∧ Small K61 (a0_0, ())) := by
  have hl : ((List.length a0_0 : Nat) : Int) ≤ 9223372036854775807 := by have := (rsl hok).1; exact Int.ofNat_le.2 this
  have hw : IntKind.i64.wrap (left - ((List.length a0_0 : Nat) : Int)) = left - ((List.length a0_0 : Nat) : Int) := wrap64 (by omega) (by omega)
  by_cases hn : left - ((List.length a0_0 : Nat) : Int) < 0
  · exact ⟨-1, go174 fun n hn' => Ev.now fun fuel => by unfold T174; rw [hw]; exact bif_pos hn, by omega⟩
  · refine szl_fact (p := p) (lvl := 1) (xs := a0_0) (S := fun r => Small K41 (r.1, ())) (st := fun (i : Nat) (l : Int) => (l, (i : Int))) (W := fun n fuel => T174 (arun p n) fuel a0_0 left) (c := fun n fuel (_ : Unit) => c174_5 (arun p n) fuel a0_0) (l0 := left - ((List.length a0_0 : Nat) : Int)) (f := fun x l => [.val false ⟨K41, (x.1, ())⟩, .val false ⟨K3, (l, ())⟩]) (q := 173) (r0 := fun r => ⟨[⟨K3, (r, ())⟩], []⟩) ?_ ?_ ?_ ?_ (by omega) (by omega) (fun r hr hp => ⟨r, go174 fun n hn => hr n hn, fun h => ⟨by have := (hp h).1; omega, ssm (Int.ofNat_le.1 (by show _ ≤ (1048576 : Int); omega)) fun i r hr => ?_⟩⟩)
    · intro i hi l h2 h3; obtain ⟨r, f, g⟩ := sz173 a0_0[i].1 l ((rsl hok).2 i a0_0[i] (at_lt hi)) h2 h3; exact ⟨r, g, fun n hn => f n (by omega)⟩
    · intro n _ fuel; show T174 (arun p n) fuel a0_0 left = _; unfold T174; rw [hw]; exact bif_neg hn
    · intro n fuel a rec i hi l r hr; replace hr : arun p n 173 [.val false ⟨K41, (a0_0[i].1, ())⟩, .val false ⟨K3, (l, ())⟩] = some ⟨[⟨K3, (r, ())⟩], []⟩ := hr; show c174_5 (arun p n) fuel a0_0 rec (l, (i : Int)) = _; unfold c174_5; simp only [dec_lt hi, dec_nn, Int.toNat_natCast, at_lt hi, Option.bind_some, cond_true, call_step' hr, wrap_succ (show i < 9223372036854775807 by omega)]
    · intro n fuel a rec l; show c174_5 (arun p n) fuel a0_0 rec (l, ((List.length a0_0 : Nat) : Int)) = _; unfold c174_5; simp only [dec_end, cond_false]
    · obtain ⟨hi, rfl⟩ := at_some hr; have := (hp h).2 i hi; exact smk (shd this) trivial
theorem to179 (a0 : Row K138) (hs : Small K138 a0) : Ran p 2 179 [.val true ⟨K138, a0⟩] ⟨[⟨K57, a0⟩], []⟩ := go179 fun n hn => Ev.now fun fuel => by
  unfold T179; exact (call_step (to24 (@vL K3 a0.1) (smk (shd hs) trivial) n (by omega))).trans <|  rfl
theorem to181 (a0_0 : List (Row K41)) (hs : Small K61 (a0_0, ())) : Ran p 2 181 [.val false ⟨K61, (a0_0, ())⟩] ⟨[⟨K61, (a0_0, ())⟩], []⟩ := go181 fun n hn => by
  have hl : List.length a0_0 ≤ 1048576 := (ssl hs).1
  refine Ev.eq (fun fuel => by unfold T181; exact bif_and3 (Int.natCast_nonneg _) (Int.ofNat_le.2 (Nat.le_trans hl (by decide))) rfl) ?_
  refine It.ev (c := fun fuel (_ : Unit) => c181_3 (arun p n) fuel a0_0) (i := ()) (r := fun _ => some ⟨[⟨K61, (a0_0, ())⟩], []⟩) ?_ rfl
  refine to_loop (α := Row K41) a0_0 (zeroRow K41) (fun i ys => ((i : Int), ys)) (fun i hi ys hy fuel a rec => ?_) (fun fuel a rec => ?_)
  · have hy' : i < ys.length := by rw [hy]; exact hi
    have hi1 : i < List.length (α := Row K41) a0_0 := hi
    have hb : i < 9223372036854775807 := Nat.lt_of_lt_of_le hi (Nat.le_trans hl (by decide))
    have f := to24 a0_0[i].1 ((ssl hs).2 i a0_0[i] (at_lt hi)) n (by omega)
    show c181_3 (arun p n) fuel a0_0 rec ((i : Int), ys) = _; unfold c181_3; simp only [dec_lt hi1, dec_nn, Int.toNat_natCast, at_lt hi1, at_lt hy', Option.bind_some, cond_true, call_step' f, wrap_succ hb] <;> rfl
  · show c181_3 (arun p n) fuel a0_0 rec (((List.length a0_0 : Nat) : Int), a0_0) = _; unfold c181_3; simp only [dec_end, cond_false] <;> rfl
theorem to182 (a0_0 : List (Row K239)) (hs : Small K142 (a0_0, ())) : Ran p 2 182 [.val false ⟨K142, (a0_0, ())⟩] ⟨[⟨K62, (a0_0, ())⟩], []⟩ := go182 fun n hn => by
  have hl : List.length a0_0 ≤ 1048576 := (ssl hs).1
  refine Ev.eq (fun fuel => by unfold T182; exact bif_and3 (Int.natCast_nonneg _) (Int.ofNat_le.2 (Nat.le_trans hl (by decide))) rfl) ?_
  refine It.ev (c := fun fuel (_ : Unit) => c182_3 (arun p n) fuel a0_0) (i := ()) (r := fun _ => some ⟨[⟨K62, (a0_0, ())⟩], []⟩) ?_ rfl
  refine to_loop (α := Row K102) a0_0 (zeroRow K102) (fun i ys => ((i : Int), ys)) (fun i hi ys hy fuel a rec => ?_) (fun fuel a rec => ?_)
  · have hy' : i < ys.length := by rw [hy]; exact hi
    have hi1 : i < List.length (α := Row K239) a0_0 := hi
    have hb : i < 9223372036854775807 := Nat.lt_of_lt_of_le hi (Nat.le_trans hl (by decide))
    have f := to238 a0_0[i] ((ssl hs).2 i a0_0[i] (at_lt hi)) n (by omega)
    show c182_3 (arun p n) fuel a0_0 rec ((i : Int), ys) = _; unfold c182_3; simp only [dec_lt hi1, dec_nn, Int.toNat_natCast, at_lt hi1, at_lt hy', Option.bind_some, cond_true, call_step' f, wrap_succ hb] <;> rfl
  · show c182_3 (arun p n) fuel a0_0 rec (((List.length a0_0 : Nat) : Int), a0_0) = _; unfold c182_3; simp only [dec_end, cond_false] <;> rfl
theorem to183 (a0_0 : List (Row K241)) (hs : Small K143 (a0_0, ())) : Ran p 2 183 [.val false ⟨K143, (a0_0, ())⟩] ⟨[⟨K63, (a0_0, ())⟩], []⟩ := go183 fun n hn => by
  have hl : List.length a0_0 ≤ 1048576 := (ssl hs).1
  refine Ev.eq (fun fuel => by unfold T183; exact bif_and3 (Int.natCast_nonneg _) (Int.ofNat_le.2 (Nat.le_trans hl (by decide))) rfl) ?_
  refine It.ev (c := fun fuel (_ : Unit) => c183_3 (arun p n) fuel a0_0) (i := ()) (r := fun _ => some ⟨[⟨K63, (a0_0, ())⟩], []⟩) ?_ rfl
  refine to_loop (α := Row K104) a0_0 (zeroRow K104) (fun i ys => ((i : Int), ys)) (fun i hi ys hy fuel a rec => ?_) (fun fuel a rec => ?_)
  · have hy' : i < ys.length := by rw [hy]; exact hi
    have hi1 : i < List.length (α := Row K241) a0_0 := hi
    have hb : i < 9223372036854775807 := Nat.lt_of_lt_of_le hi (Nat.le_trans hl (by decide))
    have f := to239 a0_0[i] ((ssl hs).2 i a0_0[i] (at_lt hi)) n (by omega)
    show c183_3 (arun p n) fuel a0_0 rec ((i : Int), ys) = _; unfold c183_3; simp only [dec_lt hi1, dec_nn, Int.toNat_natCast, at_lt hi1, at_lt hy', Option.bind_some, cond_true, call_step' f, wrap_succ hb] <;> rfl
  · show c183_3 (arun p n) fuel a0_0 rec (((List.length a0_0 : Nat) : Int), a0_0) = _; unfold c183_3; simp only [dec_end, cond_false] <;> rfl
theorem eq186 (a0 : Row K57) (hs : Small K57 a0) : Ran p 2 186 [.val true ⟨K57, a0⟩, .val true ⟨K57, a0⟩] ⟨[⟨K4, (true, ())⟩], []⟩ := go186 fun n hn => Ev.now fun fuel => by
  have f0 := eq26 (@vL K3 a0.1) (smk (shd hs) trivial) n (by omega)
  unfold T186; simp only [call_step' f0, bne_self_eq_false, beq_self_eq_true, beqB_self, Bool.not_true, cond_false, cond_true]
theorem eq188 (a0_0 : List (Row K41)) (hs : Small K61 (a0_0, ())) : Ran p 2 188 [.val false ⟨K61, (a0_0, ())⟩, .val false ⟨K61, (a0_0, ())⟩] ⟨[⟨K4, (true, ())⟩], []⟩ := go188 fun n hn => by
  have hl : List.length a0_0 ≤ 1048576 := (ssl hs).1
  refine Ev.eq (fun fuel => by unfold T188; simp only [bne_self_eq_false, cond_false]; rfl) ?_
  refine It.ev (c := fun fuel (_ : Unit) => c188_4 (arun p n) fuel a0_0 a0_0) (i := ()) (r := fun _ => some ⟨[⟨K4, (true, ())⟩], []⟩) ?_ rfl
  refine eq_loop a0_0.length (fun i => (i : Int)) (fun i hi fuel a rec => ?_) (fun fuel a rec => ?_)
  · have f := eq26 a0_0[i].1 ((ssl hs).2 i a0_0[i] (at_lt hi)) n (by omega)
    show c188_4 (arun p n) fuel a0_0 a0_0 rec (i : Int) = _; unfold c188_4; simp only [dec_lt hi, dec_nn, Int.toNat_natCast, at_lt hi, Option.bind_some, cond_true, cond_false, bne_self_eq_false, Bool.not_true, call_step' f, wrap_succ (show i < 9223372036854775807 by omega)]
  · show c188_4 (arun p n) fuel a0_0 a0_0 rec ((List.length a0_0 : Nat) : Int) = _; unfold c188_4; simp only [dec_end, cond_false]
theorem eq189 (a0_0 : List (Row K102)) (hs : Small K62 (a0_0, ())) : Ran p 2 189 [.val false ⟨K62, (a0_0, ())⟩, .val false ⟨K62, (a0_0, ())⟩] ⟨[⟨K4, (true, ())⟩], []⟩ := go189 fun n hn => by
  have hl : List.length a0_0 ≤ 1048576 := (ssl hs).1
  refine Ev.eq (fun fuel => by unfold T189; simp only [bne_self_eq_false, cond_false]; rfl) ?_
  refine It.ev (c := fun fuel (_ : Unit) => c189_4 (arun p n) fuel a0_0 a0_0) (i := ()) (r := fun _ => some ⟨[⟨K4, (true, ())⟩], []⟩) ?_ rfl
  refine eq_loop a0_0.length (fun i => (i : Int)) (fun i hi fuel a rec => ?_) (fun fuel a rec => ?_)
  · have f := eq243 a0_0[i] ((ssl hs).2 i a0_0[i] (at_lt hi)) n (by omega)
    show c189_4 (arun p n) fuel a0_0 a0_0 rec (i : Int) = _; unfold c189_4; simp only [dec_lt hi, dec_nn, Int.toNat_natCast, at_lt hi, Option.bind_some, cond_true, cond_false, bne_self_eq_false, Bool.not_true, call_step' f, wrap_succ (show i < 9223372036854775807 by omega)]
  · show c189_4 (arun p n) fuel a0_0 a0_0 rec ((List.length a0_0 : Nat) : Int) = _; unfold c189_4; simp only [dec_end, cond_false]
theorem eq190 (a0_0 : List (Row K104)) (hs : Small K63 (a0_0, ())) : Ran p 2 190 [.val false ⟨K63, (a0_0, ())⟩, .val false ⟨K63, (a0_0, ())⟩] ⟨[⟨K4, (true, ())⟩], []⟩ := go190 fun n hn => by
  have hl : List.length a0_0 ≤ 1048576 := (ssl hs).1
  refine Ev.eq (fun fuel => by unfold T190; simp only [bne_self_eq_false, cond_false]; rfl) ?_
  refine It.ev (c := fun fuel (_ : Unit) => c190_4 (arun p n) fuel a0_0 a0_0) (i := ()) (r := fun _ => some ⟨[⟨K4, (true, ())⟩], []⟩) ?_ rfl
  refine eq_loop a0_0.length (fun i => (i : Int)) (fun i hi fuel a rec => ?_) (fun fuel a rec => ?_)
  · have f := eq244 a0_0[i] ((ssl hs).2 i a0_0[i] (at_lt hi)) n (by omega)
    show c190_4 (arun p n) fuel a0_0 a0_0 rec (i : Int) = _; unfold c190_4; simp only [dec_lt hi, dec_nn, Int.toNat_natCast, at_lt hi, Option.bind_some, cond_true, cond_false, bne_self_eq_false, Bool.not_true, call_step' f, wrap_succ (show i < 9223372036854775807 by omega)]
  · show c190_4 (arun p n) fuel a0_0 a0_0 rec ((List.length a0_0 : Nat) : Int) = _; unfold c190_4; simp only [dec_end, cond_false]
theorem to236 (a0_0 : List (Row K267)) (hs : Small K135 (a0_0, ())) : Ran p 2 236 [.val false ⟨K135, (a0_0, ())⟩] ⟨[⟨K53, (a0_0, ())⟩], []⟩ := go236 fun n hn => by
  have hl : List.length a0_0 ≤ 1048576 := (ssl hs).1
  refine Ev.eq (fun fuel => by unfold T236; exact bif_and3 (Int.natCast_nonneg _) (Int.ofNat_le.2 (Nat.le_trans hl (by decide))) rfl) ?_
  refine It.ev (c := fun fuel (_ : Unit) => c236_3 (arun p n) fuel a0_0) (i := ()) (r := fun _ => some ⟨[⟨K53, (a0_0, ())⟩], []⟩) ?_ rfl
  refine to_loop (α := Row K106) a0_0 (zeroRow K106) (fun i ys => ((i : Int), ys)) (fun i hi ys hy fuel a rec => ?_) (fun fuel a rec => ?_)
  · have hy' : i < ys.length := by rw [hy]; exact hi
    have hi1 : i < List.length (α := Row K267) a0_0 := hi
    have hb : i < 9223372036854775807 := Nat.lt_of_lt_of_le hi (Nat.le_trans hl (by decide))
    have f := to273 a0_0[i] ((ssl hs).2 i a0_0[i] (at_lt hi)) n (by omega)
    show c236_3 (arun p n) fuel a0_0 rec ((i : Int), ys) = _; unfold c236_3; simp only [dec_lt hi1, dec_nn, Int.toNat_natCast, at_lt hi1, at_lt hy', Option.bind_some, cond_true, call_step' f, wrap_succ hb] <;> rfl
  · show c236_3 (arun p n) fuel a0_0 rec (((List.length a0_0 : Nat) : Int), a0_0) = _; unfold c236_3; simp only [dec_end, cond_false] <;> rfl
theorem eq241 (a0_0 : List (Row K106)) (hs : Small K53 (a0_0, ())) : Ran p 2 241 [.val false ⟨K53, (a0_0, ())⟩, .val false ⟨K53, (a0_0, ())⟩] ⟨[⟨K4, (true, ())⟩], []⟩ := go241 fun n hn => by
  have hl : List.length a0_0 ≤ 1048576 := (ssl hs).1
  refine Ev.eq (fun fuel => by unfold T241; simp only [bne_self_eq_false, cond_false]; rfl) ?_
  refine It.ev (c := fun fuel (_ : Unit) => c241_4 (arun p n) fuel a0_0 a0_0) (i := ()) (r := fun _ => some ⟨[⟨K4, (true, ())⟩], []⟩) ?_ rfl
  refine eq_loop a0_0.length (fun i => (i : Int)) (fun i hi fuel a rec => ?_) (fun fuel a rec => ?_)
  · have f := eq275 a0_0[i] ((ssl hs).2 i a0_0[i] (at_lt hi)) n (by omega)
    show c241_4 (arun p n) fuel a0_0 a0_0 rec (i : Int) = _; unfold c241_4; simp only [dec_lt hi, dec_nn, Int.toNat_natCast, at_lt hi, Option.bind_some, cond_true, cond_false, bne_self_eq_false, Bool.not_true, call_step' f, wrap_succ (show i < 9223372036854775807 by omega)]
  · show c241_4 (arun p n) fuel a0_0 a0_0 rec ((List.length a0_0 : Nat) : Int) = _; unfold c241_4; simp only [dec_end, cond_false]
theorem sz271 (a0 : Row K264) (left : Int) (hok : ROkay K264 a0) (h0 : 0 ≤ left) (h1 : left ≤ 1048576) : ∃ r : Int, Ran p 2 271 [.val true ⟨K264, a0⟩, .val false ⟨K3, (left, ())⟩] ⟨[⟨K3, (r, ())⟩], []⟩ ∧ (0 ≤ r → r ≤ left ∧ Small K264 a0) := by
  obtain ⟨r0, f0, g0⟩ := sz295 a0.2 left (rtl hok) (by omega) (by omega)
  by_cases n0 : r0 < 0
  · exact ⟨-1, go271 fun n hn => Ev.now fun fuel => by unfold T271; exact (call_step (f0 n (by omega))).trans <| (bif_pos n0), by omega⟩
  have l0 := (g0 (by omega)).1
  have s1 := shd (g0 (by omega)).2
  have s2 := shd (stl (g0 (by omega)).2)
  have s3 := shd (stl (stl (g0 (by omega)).2))
  have s4 := shd (stl (stl (stl (g0 (by omega)).2)))
  have s5 := shd (stl (stl (stl (stl (g0 (by omega)).2))))
  exact ⟨r0, go271 fun n hn => Ev.now fun fuel => by unfold T271; exact (call_step (f0 n (by omega))).trans <| (bif_neg n0).trans <|  rfl, fun _ => ⟨by omega, (smk trivial (smk s1 (smk s2 (smk s3 (smk s4 (smk s5 trivial))))))⟩⟩
theorem to272 (a0 : Row K264) (hs : Small K264 a0) : Ran p 2 272 [.val true ⟨K264, a0⟩] ⟨[⟨K83, a0⟩], []⟩ := go272 fun n hn => Ev.now fun fuel => by
  unfold T272; exact (call_step (to296 a0.2 (stl hs) n (by omega))).trans <|  rfl
theorem eq274 (a0 : Row K83) (hs : Small K83 a0) : Ran p 2 274 [.val true ⟨K83, a0⟩, .val true ⟨K83, a0⟩] ⟨[⟨K4, (true, ())⟩], []⟩ := go274 fun n hn => Ev.now fun fuel => by
  have f0 := eq297 a0.2 (stl hs) n (by omega)
  unfold T274; simp only [call_step' f0, bne_self_eq_false, beq_self_eq_true, beqB_self, Bool.not_true, cond_false, cond_true]
theorem sz60 (a0_0 : List (Row K147)) (left : Int) (hok : ROkay K34 (a0_0, ())) (h0 : 0 ≤ left) (h1 : left ≤ 1048576) : ∃ r : Int, Ran p 3 60 [.val false ⟨K34, (a0_0, ())⟩, .val false ⟨K3, (left, ())⟩] ⟨[⟨K3, (r, ())⟩], []⟩ ∧ (0 ≤ r → r ≤ left ∧ Small K34 (a0_0, ())) := by
  have hl : ((List.length a0_0 : Nat) : Int) ≤ 9223372036854775807 := by have := (rsl hok).1; exact Int.ofNat_le.2 this
  have hw : IntKind.i64.wrap (left - ((List.length a0_0 : Nat) : Int)) = left - ((List.length a0_0 : Nat) : Int) := wrap64 (by omega) (by omega)
  by_cases hn : left - ((List.length a0_0 : Nat) : Int) < 0
  · exact ⟨-1, go60 fun n hn' => Ev.now fun fuel => by unfold T60; rw [hw]; exact bif_pos hn, by omega⟩
  · refine szl_fact (p := p) (lvl := 2) (xs := a0_0) (S := fun r => Small K147 r) (st := fun (i : Nat) (l : Int) => (l, (i : Int))) (W := fun n fuel => T60 (arun p n) fuel a0_0 left) (c := fun n fuel (_ : Unit) => c60_5 (arun p n) fuel a0_0) (l0 := left - ((List.length a0_0 : Nat) : Int)) (f := fun x l => [.val true ⟨K147, x⟩, .val false ⟨K3, (l, ())⟩]) (q := 122) (r0 := fun r => ⟨[⟨K3, (r, ())⟩], []⟩) ?_ ?_ ?_ ?_ (by omega) (by omega) (fun r hr hp => ⟨r, go60 fun n hn => hr n hn, fun h => ⟨by have := (hp h).1; omega, ssm (Int.ofNat_le.1 (by show _ ≤ (1048576 : Int); omega)) fun i r hr => ?_⟩⟩)
    · intro i hi l h2 h3; obtain ⟨r, f, g⟩ := sz122 a0_0[i] l ((rsl hok).2 i a0_0[i] (at_lt hi)) h2 h3; exact ⟨r, g, fun n hn => f n (by omega)⟩
    · intro n _ fuel; show T60 (arun p n) fuel a0_0 left = _; unfold T60; rw [hw]; exact bif_neg hn
    · intro n fuel a rec i hi l r hr; replace hr : arun p n 122 [.val true ⟨K147, a0_0[i]⟩, .val false ⟨K3, (l, ())⟩] = some ⟨[⟨K3, (r, ())⟩], []⟩ := hr; show c60_5 (arun p n) fuel a0_0 rec (l, (i : Int)) = _; unfold c60_5; simp only [dec_lt hi, dec_nn, Int.toNat_natCast, at_lt hi, Option.bind_some, cond_true, call_step' hr, wrap_succ (show i < 9223372036854775807 by omega)]
    · intro n fuel a rec l; show c60_5 (arun p n) fuel a0_0 rec (l, ((List.length a0_0 : Nat) : Int)) = _; unfold c60_5; simp only [dec_end, cond_false]
    · obtain ⟨hi, rfl⟩ := at_some hr; have := (hp h).2 i hi; exact this
theorem to63 (a0_0 : List (Row K147)) (hs : Small K34 (a0_0, ())) : Ran p 3 63 [.val false ⟨K34, (a0_0, ())⟩] ⟨[⟨K25, (a0_0, ())⟩], []⟩ := go63 fun n hn => by
  have hl : List.length a0_0 ≤ 1048576 := (ssl hs).1
  refine Ev.eq (fun fuel => by unfold T63; exact bif_and3 (Int.natCast_nonneg _) (Int.ofNat_le.2 (Nat.le_trans hl (by decide))) rfl) ?_
  refine It.ev (c := fun fuel (_ : Unit) => c63_3 (arun p n) fuel a0_0) (i := ()) (r := fun _ => some ⟨[⟨K25, (a0_0, ())⟩], []⟩) ?_ rfl
  refine to_loop (α := Row K67) a0_0 (zeroRow K67) (fun i ys => ((i : Int), ys)) (fun i hi ys hy fuel a rec => ?_) (fun fuel a rec => ?_)
  · have hy' : i < ys.length := by rw [hy]; exact hi
    have hi1 : i < List.length (α := Row K147) a0_0 := hi
    have hb : i < 9223372036854775807 := Nat.lt_of_lt_of_le hi (Nat.le_trans hl (by decide))
    have f := to125 a0_0[i] ((ssl hs).2 i a0_0[i] (at_lt hi)) n (by omega)
    show c63_3 (arun p n) fuel a0_0 rec ((i : Int), ys) = _; unfold c63_3; simp only [dec_lt hi1, dec_nn, Int.toNat_natCast, at_lt hi1, at_lt hy', Option.bind_some, cond_true, call_step' f, wrap_succ hb] <;> rfl
  · show c63_3 (arun p n) fuel a0_0 rec (((List.length a0_0 : Nat) : Int), a0_0) = _; unfold c63_3; simp only [dec_end, cond_false] <;> rfl
theorem eq66 (a0_0 : List (Row K67)) (hs : Small K25 (a0_0, ())) : Ran p 3 66 [.val false ⟨K25, (a0_0, ())⟩, .val false ⟨K25, (a0_0, ())⟩] ⟨[⟨K4, (true, ())⟩], []⟩ := go66 fun n hn => by
  have hl : List.length a0_0 ≤ 1048576 := (ssl hs).1
  refine Ev.eq (fun fuel => by unfold T66; simp only [bne_self_eq_false, cond_false]; rfl) ?_
  refine It.ev (c := fun fuel (_ : Unit) => c66_4 (arun p n) fuel a0_0 a0_0) (i := ()) (r := fun _ => some ⟨[⟨K4, (true, ())⟩], []⟩) ?_ rfl
  refine eq_loop a0_0.length (fun i => (i : Int)) (fun i hi fuel a rec => ?_) (fun fuel a rec => ?_)
  · have f := eq128 a0_0[i] ((ssl hs).2 i a0_0[i] (at_lt hi)) n (by omega)
    show c66_4 (arun p n) fuel a0_0 a0_0 rec (i : Int) = _; unfold c66_4; simp only [dec_lt hi, dec_nn, Int.toNat_natCast, at_lt hi, Option.bind_some, cond_true, cond_false, bne_self_eq_false, Bool.not_true, call_step' f, wrap_succ (show i < 9223372036854775807 by omega)]
  · show c66_4 (arun p n) fuel a0_0 a0_0 rec ((List.length a0_0 : Nat) : Int) = _; unfold c66_4; simp only [dec_end, cond_false]
theorem sz232 (a0_0 : List (Row K264)) (left : Int) (hok : ROkay K134 (a0_0, ())) (h0 : 0 ≤ left) (h1 : left ≤ 1048576) : ∃ r : Int, Ran p 3 232 [.val false ⟨K134, (a0_0, ())⟩, .val false ⟨K3, (left, ())⟩] ⟨[⟨K3, (r, ())⟩], []⟩ ∧ (0 ≤ r → r ≤ left ∧ Small K134 (a0_0, ())) := by
  have hl : ((List.length a0_0 : Nat) : Int) ≤ 9223372036854775807 := by have := (rsl hok).1; exact Int.ofNat_le.2 this
  have hw : IntKind.i64.wrap (left - ((List.length a0_0 : Nat) : Int)) = left - ((List.length a0_0 : Nat) : Int) := wrap64 (by omega) (by omega)
  by_cases hn : left - ((List.length a0_0 : Nat) : Int) < 0
  · exact ⟨-1, go232 fun n hn' => Ev.now fun fuel => by unfold T232; rw [hw]; exact bif_pos hn, by omega⟩
  · refine szl_fact (p := p) (lvl := 2) (xs := a0_0) (S := fun r => Small K264 r) (st := fun (i : Nat) (l : Int) => (l, (i : Int))) (W := fun n fuel => T232 (arun p n) fuel a0_0 left) (c := fun n fuel (_ : Unit) => c232_5 (arun p n) fuel a0_0) (l0 := left - ((List.length a0_0 : Nat) : Int)) (f := fun x l => [.val true ⟨K264, x⟩, .val false ⟨K3, (l, ())⟩]) (q := 271) (r0 := fun r => ⟨[⟨K3, (r, ())⟩], []⟩) ?_ ?_ ?_ ?_ (by omega) (by omega) (fun r hr hp => ⟨r, go232 fun n hn => hr n hn, fun h => ⟨by have := (hp h).1; omega, ssm (Int.ofNat_le.1 (by show _ ≤ (1048576 : Int); omega)) fun i r hr => ?_⟩⟩)
    · intro i hi l h2 h3; obtain ⟨r, f, g⟩ := sz271 a0_0[i] l ((rsl hok).2 i a0_0[i] (at_lt hi)) h2 h3; exact ⟨r, g, fun n hn => f n (by omega)⟩
    · intro n _ fuel; show T232 (arun p n) fuel a0_0 left = _; unfold T232; rw [hw]; exact bif_neg hn
    · intro n fuel a rec i hi l r hr; replace hr : arun p n 271 [.val true ⟨K264, a0_0[i]⟩, .val false ⟨K3, (l, ())⟩] = some ⟨[⟨K3, (r, ())⟩], []⟩ := hr; show c232_5 (arun p n) fuel a0_0 rec (l, (i : Int)) = _; unfold c232_5; simp only [dec_lt hi, dec_nn, Int.toNat_natCast, at_lt hi, Option.bind_some, cond_true, call_step' hr, wrap_succ (show i < 9223372036854775807 by omega)]
    · intro n fuel a rec l; show c232_5 (arun p n) fuel a0_0 rec (l, ((List.length a0_0 : Nat) : Int)) = _; unfold c232_5; simp only [dec_end, cond_false]
    · obtain ⟨hi, rfl⟩ := at_some hr; have := (hp h).2 i hi; exact this
theorem to235 (a0_0 : List (Row K264)) (hs : Small K134 (a0_0, ())) : Ran p 3 235 [.val false ⟨K134, (a0_0, ())⟩] ⟨[⟨K52, (a0_0, ())⟩], []⟩ := go235 fun n hn => by
  have hl : List.length a0_0 ≤ 1048576 := (ssl hs).1
  refine Ev.eq (fun fuel => by unfold T235; exact bif_and3 (Int.natCast_nonneg _) (Int.ofNat_le.2 (Nat.le_trans hl (by decide))) rfl) ?_
  refine It.ev (c := fun fuel (_ : Unit) => c235_3 (arun p n) fuel a0_0) (i := ()) (r := fun _ => some ⟨[⟨K52, (a0_0, ())⟩], []⟩) ?_ rfl
  refine to_loop (α := Row K83) a0_0 (zeroRow K83) (fun i ys => ((i : Int), ys)) (fun i hi ys hy fuel a rec => ?_) (fun fuel a rec => ?_)
  · have hy' : i < ys.length := by rw [hy]; exact hi
    have hi1 : i < List.length (α := Row K264) a0_0 := hi
    have hb : i < 9223372036854775807 := Nat.lt_of_lt_of_le hi (Nat.le_trans hl (by decide))
    have f := to272 a0_0[i] ((ssl hs).2 i a0_0[i] (at_lt hi)) n (by omega)
    show c235_3 (arun p n) fuel a0_0 rec ((i : Int), ys) = _; unfold c235_3; simp only [dec_lt hi1, dec_nn, Int.toNat_natCast, at_lt hi1, at_lt hy', Option.bind_some, cond_true, call_step' f, wrap_succ hb] <;> rfl
  · show c235_3 (arun p n) fuel a0_0 rec (((List.length a0_0 : Nat) : Int), a0_0) = _; unfold c235_3; simp only [dec_end, cond_false] <;> rfl
theorem eq240 (a0_0 : List (Row K83)) (hs : Small K52 (a0_0, ())) : Ran p 3 240 [.val false ⟨K52, (a0_0, ())⟩, .val false ⟨K52, (a0_0, ())⟩] ⟨[⟨K4, (true, ())⟩], []⟩ := go240 fun n hn => by
  have hl : List.length a0_0 ≤ 1048576 := (ssl hs).1
  refine Ev.eq (fun fuel => by unfold T240; simp only [bne_self_eq_false, cond_false]; rfl) ?_
  refine It.ev (c := fun fuel (_ : Unit) => c240_4 (arun p n) fuel a0_0 a0_0) (i := ()) (r := fun _ => some ⟨[⟨K4, (true, ())⟩], []⟩) ?_ rfl
  refine eq_loop a0_0.length (fun i => (i : Int)) (fun i hi fuel a rec => ?_) (fun fuel a rec => ?_)
  · have f := eq274 a0_0[i] ((ssl hs).2 i a0_0[i] (at_lt hi)) n (by omega)
    show c240_4 (arun p n) fuel a0_0 a0_0 rec (i : Int) = _; unfold c240_4; simp only [dec_lt hi, dec_nn, Int.toNat_natCast, at_lt hi, Option.bind_some, cond_true, cond_false, bne_self_eq_false, Bool.not_true, call_step' f, wrap_succ (show i < 9223372036854775807 by omega)]
  · show c240_4 (arun p n) fuel a0_0 a0_0 rec ((List.length a0_0 : Nat) : Int) = _; unfold c240_4; simp only [dec_end, cond_false]
theorem sz170 (a0 : Row K137) (left : Int) (hok : ROkay K137 a0) (h0 : 0 ≤ left) (h1 : left ≤ 1048576) : ∃ r : Int, Ran p 4 170 [.val true ⟨K137, a0⟩, .val false ⟨K3, (left, ())⟩] ⟨[⟨K3, (r, ())⟩], []⟩ ∧ (0 ≤ r → r ≤ left ∧ Small K137 a0) := by
  obtain ⟨r0, f0, g0⟩ := sz232 (@vL K264 a0.1) left (rmk (rhd hok) trivial) (by omega) (by omega)
  by_cases n0 : r0 < 0
  · exact ⟨-1, go170 fun n hn => Ev.now fun fuel => by unfold T170; exact (call_step (f0 n (by omega))).trans <| (bif_pos n0), by omega⟩
  have l0 := (g0 (by omega)).1
  have s0 := shd (g0 (by omega)).2
  obtain ⟨r1, f1, g1⟩ := sz233 (@vL K267 a0.2.1) r0 (rmk (rhd (rtl hok)) trivial) (by omega) (by omega)
  by_cases n1 : r1 < 0
  · exact ⟨-1, go170 fun n hn => Ev.now fun fuel => by unfold T170; exact (call_step (f0 n (by omega))).trans <| (bif_neg n0).trans <| (call_step (f1 n (by omega))).trans <| (bif_pos n1), by omega⟩
  have l1 := (g1 (by omega)).1
  have s1 := shd (g1 (by omega)).2
  exact ⟨r1, go170 fun n hn => Ev.now fun fuel => by unfold T170; exact (call_step (f0 n (by omega))).trans <| (bif_neg n0).trans <| (call_step (f1 n (by omega))).trans <| (bif_neg n1).trans <|  rfl, fun _ => ⟨by omega, (smk s0 (smk s1 trivial))⟩⟩
theorem to178 (a0 : Row K137) (hs : Small K137 a0) : Ran p 4 178 [.val true ⟨K137, a0⟩] ⟨[⟨K55, a0⟩], []⟩ := go178 fun n hn => Ev.now fun fuel => by
  unfold T178; exact (call_step (to235 (@vL K264 a0.1) (smk (shd hs) trivial) n (by omega))).trans <| (call_step (to236 (@vL K267 a0.2.1) (smk (shd (stl hs)) trivial) n (by omega))).trans <|  rfl
theorem eq185 (a0 : Row K55) (hs : Small K55 a0) : Ran p 4 185 [.val true ⟨K55, a0⟩, .val true ⟨K55, a0⟩] ⟨[⟨K4, (true, ())⟩], []⟩ := go185 fun n hn => Ev.now fun fuel => by
  have f0 := eq240 (@vL K83 a0.1) (smk (shd hs) trivial) n (by omega)
  have f1 := eq241 (@vL K106 a0.2.1) (smk (shd (stl hs)) trivial) n (by omega)
  unfold T185; simp only [call_step' f0, call_step' f1, bne_self_eq_false, beq_self_eq_true, beqB_self, Bool.not_true, cond_false, cond_true]
theorem sz123 (a0 : Row K150) (left : Int) (hok : ROkay K150 a0) (h0 : 0 ≤ left) (h1 : left ≤ 1048576) : ∃ r : Int, Ran p 5 123 [.val true ⟨K150, a0⟩, .val false ⟨K3, (left, ())⟩] ⟨[⟨K3, (r, ())⟩], []⟩ ∧ (0 ≤ r → r ≤ left ∧ Small K150 a0) := by
  obtain ⟨r0, f0, g0⟩ := sz170 a0.2 left (rtl hok) (by omega) (by omega)
  by_cases n0 : r0 < 0
  · exact ⟨-1, go123 fun n hn => Ev.now fun fuel => by unfold T123; exact (call_step (f0 n (by omega))).trans <| (bif_pos n0), by omega⟩
  have l0 := (g0 (by omega)).1
  have s1 := shd (g0 (by omega)).2
  have s2 := shd (stl (g0 (by omega)).2)
  exact ⟨r0, go123 fun n hn => Ev.now fun fuel => by unfold T123; exact (call_step (f0 n (by omega))).trans <| (bif_neg n0).trans <|  rfl, fun _ => ⟨by omega, (smk trivial (smk s1 (smk s2 trivial)))⟩⟩
theorem to126 (a0 : Row K150) (hs : Small K150 a0) : Ran p 5 126 [.val true ⟨K150, a0⟩] ⟨[⟨K69, a0⟩], []⟩ := go126 fun n hn => Ev.now fun fuel => by
  unfold T126; exact (call_step (to178 a0.2 (stl hs) n (by omega))).trans <|  rfl
theorem eq129 (a0 : Row K69) (hs : Small K69 a0) : Ran p 5 129 [.val true ⟨K69, a0⟩, .val true ⟨K69, a0⟩] ⟨[⟨K4, (true, ())⟩], []⟩ := go129 fun n hn => Ev.now fun fuel => by
  have f0 := eq185 a0.2 (stl hs) n (by omega)
  unfold T129; simp only [call_step' f0, bne_self_eq_false, beq_self_eq_true, beqB_self, Bool.not_true, cond_false, cond_true]
theorem sz234 (a0_0 : List (Row K137)) (left : Int) (hok : ROkay K139 (a0_0, ())) (h0 : 0 ≤ left) (h1 : left ≤ 1048576) : ∃ r : Int, Ran p 5 234 [.val false ⟨K139, (a0_0, ())⟩, .val false ⟨K3, (left, ())⟩] ⟨[⟨K3, (r, ())⟩], []⟩ ∧ (0 ≤ r → r ≤ left ∧ Small K139 (a0_0, ())) := by
  have hl : ((List.length a0_0 : Nat) : Int) ≤ 9223372036854775807 := by have := (rsl hok).1; exact Int.ofNat_le.2 this
  have hw : IntKind.i64.wrap (left - ((List.length a0_0 : Nat) : Int)) = left - ((List.length a0_0 : Nat) : Int) := wrap64 (by omega) (by omega)
  by_cases hn : left - ((List.length a0_0 : Nat) : Int) < 0
  · exact ⟨-1, go234 fun n hn' => Ev.now fun fuel => by unfold T234; rw [hw]; exact bif_pos hn, by omega⟩
  · refine szl_fact (p := p) (lvl := 4) (xs := a0_0) (S := fun r => Small K137 r) (st := fun (i : Nat) (l : Int) => (l, (i : Int))) (W := fun n fuel => T234 (arun p n) fuel a0_0 left) (c := fun n fuel (_ : Unit) => c234_5 (arun p n) fuel a0_0) (l0 := left - ((List.length a0_0 : Nat) : Int)) (f := fun x l => [.val true ⟨K137, x⟩, .val false ⟨K3, (l, ())⟩]) (q := 170) (r0 := fun r => ⟨[⟨K3, (r, ())⟩], []⟩) ?_ ?_ ?_ ?_ (by omega) (by omega) (fun r hr hp => ⟨r, go234 fun n hn => hr n hn, fun h => ⟨by have := (hp h).1; omega, ssm (Int.ofNat_le.1 (by show _ ≤ (1048576 : Int); omega)) fun i r hr => ?_⟩⟩)
    · intro i hi l h2 h3; obtain ⟨r, f, g⟩ := sz170 a0_0[i] l ((rsl hok).2 i a0_0[i] (at_lt hi)) h2 h3; exact ⟨r, g, fun n hn => f n (by omega)⟩
    · intro n _ fuel; show T234 (arun p n) fuel a0_0 left = _; unfold T234; rw [hw]; exact bif_neg hn
    · intro n fuel a rec i hi l r hr; replace hr : arun p n 170 [.val true ⟨K137, a0_0[i]⟩, .val false ⟨K3, (l, ())⟩] = some ⟨[⟨K3, (r, ())⟩], []⟩ := hr; show c234_5 (arun p n) fuel a0_0 rec (l, (i : Int)) = _; unfold c234_5; simp only [dec_lt hi, dec_nn, Int.toNat_natCast, at_lt hi, Option.bind_some, cond_true, call_step' hr, wrap_succ (show i < 9223372036854775807 by omega)]
    · intro n fuel a rec l; show c234_5 (arun p n) fuel a0_0 rec (l, ((List.length a0_0 : Nat) : Int)) = _; unfold c234_5; simp only [dec_end, cond_false]
    · obtain ⟨hi, rfl⟩ := at_some hr; have := (hp h).2 i hi; exact this
theorem to237 (a0_0 : List (Row K137)) (hs : Small K139 (a0_0, ())) : Ran p 5 237 [.val false ⟨K139, (a0_0, ())⟩] ⟨[⟨K58, (a0_0, ())⟩], []⟩ := go237 fun n hn => by
  have hl : List.length a0_0 ≤ 1048576 := (ssl hs).1
  refine Ev.eq (fun fuel => by unfold T237; exact bif_and3 (Int.natCast_nonneg _) (Int.ofNat_le.2 (Nat.le_trans hl (by decide))) rfl) ?_
  refine It.ev (c := fun fuel (_ : Unit) => c237_3 (arun p n) fuel a0_0) (i := ()) (r := fun _ => some ⟨[⟨K58, (a0_0, ())⟩], []⟩) ?_ rfl
  refine to_loop (α := Row K55) a0_0 (zeroRow K55) (fun i ys => ((i : Int), ys)) (fun i hi ys hy fuel a rec => ?_) (fun fuel a rec => ?_)
  · have hy' : i < ys.length := by rw [hy]; exact hi
    have hi1 : i < List.length (α := Row K137) a0_0 := hi
    have hb : i < 9223372036854775807 := Nat.lt_of_lt_of_le hi (Nat.le_trans hl (by decide))
    have f := to178 a0_0[i] ((ssl hs).2 i a0_0[i] (at_lt hi)) n (by omega)
    show c237_3 (arun p n) fuel a0_0 rec ((i : Int), ys) = _; unfold c237_3; simp only [dec_lt hi1, dec_nn, Int.toNat_natCast, at_lt hi1, at_lt hy', Option.bind_some, cond_true, call_step' f, wrap_succ hb] <;> rfl
  · show c237_3 (arun p n) fuel a0_0 rec (((List.length a0_0 : Nat) : Int), a0_0) = _; unfold c237_3; simp only [dec_end, cond_false] <;> rfl
theorem eq242 (a0_0 : List (Row K55)) (hs : Small K58 (a0_0, ())) : Ran p 5 242 [.val false ⟨K58, (a0_0, ())⟩, .val false ⟨K58, (a0_0, ())⟩] ⟨[⟨K4, (true, ())⟩], []⟩ := go242 fun n hn => by
  have hl : List.length a0_0 ≤ 1048576 := (ssl hs).1
  refine Ev.eq (fun fuel => by unfold T242; simp only [bne_self_eq_false, cond_false]; rfl) ?_
  refine It.ev (c := fun fuel (_ : Unit) => c242_4 (arun p n) fuel a0_0 a0_0) (i := ()) (r := fun _ => some ⟨[⟨K4, (true, ())⟩], []⟩) ?_ rfl
  refine eq_loop a0_0.length (fun i => (i : Int)) (fun i hi fuel a rec => ?_) (fun fuel a rec => ?_)
  · have f := eq185 a0_0[i] ((ssl hs).2 i a0_0[i] (at_lt hi)) n (by omega)
    show c242_4 (arun p n) fuel a0_0 a0_0 rec (i : Int) = _; unfold c242_4; simp only [dec_lt hi, dec_nn, Int.toNat_natCast, at_lt hi, Option.bind_some, cond_true, cond_false, bne_self_eq_false, Bool.not_true, call_step' f, wrap_succ (show i < 9223372036854775807 by omega)]
  · show c242_4 (arun p n) fuel a0_0 a0_0 rec ((List.length a0_0 : Nat) : Int) = _; unfold c242_4; simp only [dec_end, cond_false]
theorem sz61 (a0_0 : List (Row K150)) (left : Int) (hok : ROkay K35 (a0_0, ())) (h0 : 0 ≤ left) (h1 : left ≤ 1048576) : ∃ r : Int, Ran p 6 61 [.val false ⟨K35, (a0_0, ())⟩, .val false ⟨K3, (left, ())⟩] ⟨[⟨K3, (r, ())⟩], []⟩ ∧ (0 ≤ r → r ≤ left ∧ Small K35 (a0_0, ())) := by
  have hl : ((List.length a0_0 : Nat) : Int) ≤ 9223372036854775807 := by have := (rsl hok).1; exact Int.ofNat_le.2 this
  have hw : IntKind.i64.wrap (left - ((List.length a0_0 : Nat) : Int)) = left - ((List.length a0_0 : Nat) : Int) := wrap64 (by omega) (by omega)
  by_cases hn : left - ((List.length a0_0 : Nat) : Int) < 0
  · exact ⟨-1, go61 fun n hn' => Ev.now fun fuel => by unfold T61; rw [hw]; exact bif_pos hn, by omega⟩
  · refine szl_fact (p := p) (lvl := 5) (xs := a0_0) (S := fun r => Small K150 r) (st := fun (i : Nat) (l : Int) => (l, (i : Int))) (W := fun n fuel => T61 (arun p n) fuel a0_0 left) (c := fun n fuel (_ : Unit) => c61_5 (arun p n) fuel a0_0) (l0 := left - ((List.length a0_0 : Nat) : Int)) (f := fun x l => [.val true ⟨K150, x⟩, .val false ⟨K3, (l, ())⟩]) (q := 123) (r0 := fun r => ⟨[⟨K3, (r, ())⟩], []⟩) ?_ ?_ ?_ ?_ (by omega) (by omega) (fun r hr hp => ⟨r, go61 fun n hn => hr n hn, fun h => ⟨by have := (hp h).1; omega, ssm (Int.ofNat_le.1 (by show _ ≤ (1048576 : Int); omega)) fun i r hr => ?_⟩⟩)
    · intro i hi l h2 h3; obtain ⟨r, f, g⟩ := sz123 a0_0[i] l ((rsl hok).2 i a0_0[i] (at_lt hi)) h2 h3; exact ⟨r, g, fun n hn => f n (by omega)⟩
    · intro n _ fuel; show T61 (arun p n) fuel a0_0 left = _; unfold T61; rw [hw]; exact bif_neg hn
    · intro n fuel a rec i hi l r hr; replace hr : arun p n 123 [.val true ⟨K150, a0_0[i]⟩, .val false ⟨K3, (l, ())⟩] = some ⟨[⟨K3, (r, ())⟩], []⟩ := hr; show c61_5 (arun p n) fuel a0_0 rec (l, (i : Int)) = _; unfold c61_5; simp only [dec_lt hi, dec_nn, Int.toNat_natCast, at_lt hi, Option.bind_some, cond_true, call_step' hr, wrap_succ (show i < 9223372036854775807 by omega)]
    · intro n fuel a rec l; show c61_5 (arun p n) fuel a0_0 rec (l, ((List.length a0_0 : Nat) : Int)) = _; unfold c61_5; simp only [dec_end, cond_false]
    · obtain ⟨hi, rfl⟩ := at_some hr; have := (hp h).2 i hi; exact this
theorem to64 (a0_0 : List (Row K150)) (hs : Small K35 (a0_0, ())) : Ran p 6 64 [.val false ⟨K35, (a0_0, ())⟩] ⟨[⟨K26, (a0_0, ())⟩], []⟩ := go64 fun n hn => by
  have hl : List.length a0_0 ≤ 1048576 := (ssl hs).1
  refine Ev.eq (fun fuel => by unfold T64; exact bif_and3 (Int.natCast_nonneg _) (Int.ofNat_le.2 (Nat.le_trans hl (by decide))) rfl) ?_
  refine It.ev (c := fun fuel (_ : Unit) => c64_3 (arun p n) fuel a0_0) (i := ()) (r := fun _ => some ⟨[⟨K26, (a0_0, ())⟩], []⟩) ?_ rfl
  refine to_loop (α := Row K69) a0_0 (zeroRow K69) (fun i ys => ((i : Int), ys)) (fun i hi ys hy fuel a rec => ?_) (fun fuel a rec => ?_)
  · have hy' : i < ys.length := by rw [hy]; exact hi
    have hi1 : i < List.length (α := Row K150) a0_0 := hi
    have hb : i < 9223372036854775807 := Nat.lt_of_lt_of_le hi (Nat.le_trans hl (by decide))
    have f := to126 a0_0[i] ((ssl hs).2 i a0_0[i] (at_lt hi)) n (by omega)
    show c64_3 (arun p n) fuel a0_0 rec ((i : Int), ys) = _; unfold c64_3; simp only [dec_lt hi1, dec_nn, Int.toNat_natCast, at_lt hi1, at_lt hy', Option.bind_some, cond_true, call_step' f, wrap_succ hb] <;> rfl
  · show c64_3 (arun p n) fuel a0_0 rec (((List.length a0_0 : Nat) : Int), a0_0) = _; unfold c64_3; simp only [dec_end, cond_false] <;> rfl
theorem eq67 (a0_0 : List (Row K69)) (hs : Small K26 (a0_0, ())) : Ran p 6 67 [.val false ⟨K26, (a0_0, ())⟩, .val false ⟨K26, (a0_0, ())⟩] ⟨[⟨K4, (true, ())⟩], []⟩ := go67 fun n hn => by
  have hl : List.length a0_0 ≤ 1048576 := (ssl hs).1
  refine Ev.eq (fun fuel => by unfold T67; simp only [bne_self_eq_false, cond_false]; rfl) ?_
  refine It.ev (c := fun fuel (_ : Unit) => c67_4 (arun p n) fuel a0_0 a0_0) (i := ()) (r := fun _ => some ⟨[⟨K4, (true, ())⟩], []⟩) ?_ rfl
  refine eq_loop a0_0.length (fun i => (i : Int)) (fun i hi fuel a rec => ?_) (fun fuel a rec => ?_)
  · have f := eq129 a0_0[i] ((ssl hs).2 i a0_0[i] (at_lt hi)) n (by omega)
    show c67_4 (arun p n) fuel a0_0 a0_0 rec (i : Int) = _; unfold c67_4; simp only [dec_lt hi, dec_nn, Int.toNat_natCast, at_lt hi, Option.bind_some, cond_true, cond_false, bne_self_eq_false, Bool.not_true, call_step' f, wrap_succ (show i < 9223372036854775807 by omega)]
  · show c67_4 (arun p n) fuel a0_0 a0_0 rec ((List.length a0_0 : Nat) : Int) = _; unfold c67_4; simp only [dec_end, cond_false]
theorem sz172 (a0 : Row K141) (left : Int) (hok : ROkay K141 a0) (h0 : 0 ≤ left) (h1 : left ≤ 1048576) : ∃ r : Int, Ran p 6 172 [.val true ⟨K141, a0⟩, .val false ⟨K3, (left, ())⟩] ⟨[⟨K3, (r, ())⟩], []⟩ ∧ (0 ≤ r → r ≤ left ∧ Small K141 a0) := by
  obtain ⟨r0, f0, g0⟩ := sz234 (@vL K137 a0.2.2.1) left (rmk (rhd (rtl (rtl hok))) trivial) (by omega) (by omega)
  by_cases n0 : r0 < 0
  · exact ⟨-1, go172 fun n hn => Ev.now fun fuel => by unfold T172; exact (call_step (f0 n (by omega))).trans <| (bif_pos n0), by omega⟩
  have l0 := (g0 (by omega)).1
  have s2 := shd (g0 (by omega)).2
  exact ⟨r0, go172 fun n hn => Ev.now fun fuel => by unfold T172; exact (call_step (f0 n (by omega))).trans <| (bif_neg n0).trans <|  rfl, fun _ => ⟨by omega, (smk trivial (smk trivial (smk s2 trivial)))⟩⟩
theorem to180 (a0 : Row K141) (hs : Small K141 a0) : Ran p 6 180 [.val true ⟨K141, a0⟩] ⟨[⟨K60, a0⟩], []⟩ := go180 fun n hn => Ev.now fun fuel => by
  unfold T180; exact (call_step (to237 (@vL K137 a0.2.2.1) (smk (shd (stl (stl hs))) trivial) n (by omega))).trans <|  rfl
theorem eq187 (a0 : Row K60) (hs : Small K60 a0) : Ran p 6 187 [.val true ⟨K60, a0⟩, .val true ⟨K60, a0⟩] ⟨[⟨K4, (true, ())⟩], []⟩ := go187 fun n hn => Ev.now fun fuel => by
  have f0 := eq242 (@vL K55 a0.2.2.1) (smk (shd (stl (stl hs))) trivial) n (by omega)
  unfold T187; simp only [call_step' f0, bne_self_eq_false, beq_self_eq_true, beqB_self, Bool.not_true, cond_false, cond_true]
theorem sz121 (a0 : Row K145) (left : Int) (hok : ROkay K145 a0) (h0 : 0 ≤ left) (h1 : left ≤ 1048576) : ∃ r : Int, Ran p 7 121 [.val true ⟨K145, a0⟩, .val false ⟨K3, (left, ())⟩] ⟨[⟨K3, (r, ())⟩], []⟩ ∧ (0 ≤ r → r ≤ left ∧ Small K145 a0) := by
  obtain ⟨r0, f0, g0⟩ := sz170 ((@vL K264 a0.2.2.1), (@vL K267 a0.2.2.2.1), ()) left (rmk (rhd (rtl (rtl hok))) (rmk (rhd (rtl (rtl (rtl hok)))) trivial)) (by omega) (by omega)
  by_cases n0 : r0 < 0
  · exact ⟨-1, go121 fun n hn => Ev.now fun fuel => by unfold T121; exact (call_step (f0 n (by omega))).trans <| (bif_pos n0), by omega⟩
  have l0 := (g0 (by omega)).1
  have s2 := shd (g0 (by omega)).2
  have s3 := shd (stl (g0 (by omega)).2)
  obtain ⟨r1, f1, g1⟩ := sz171 ((@vL K3 a0.2.2.2.2.1), (vI a0.2.2.2.2.2.1), ()) r0 (rmk (rhd (rtl (rtl (rtl (rtl hok))))) (rmk (rhd (rtl (rtl (rtl (rtl (rtl hok)))))) trivial)) (by omega) (by omega)
  by_cases n1 : r1 < 0
  · exact ⟨-1, go121 fun n hn => Ev.now fun fuel => by unfold T121; exact (call_step (f0 n (by omega))).trans <| (bif_neg n0).trans <| (call_step (f1 n (by omega))).trans <| (bif_pos n1), by omega⟩
  have l1 := (g1 (by omega)).1
  have s4 := shd (g1 (by omega)).2
  have s5 := shd (stl (g1 (by omega)).2)
  obtain ⟨r2, f2, g2⟩ := sz172 ((vI a0.2.2.2.2.2.2.1), (vI a0.2.2.2.2.2.2.2.1), (@vL K137 a0.2.2.2.2.2.2.2.2.1), ()) r1 (rmk (rhd (rtl (rtl (rtl (rtl (rtl (rtl hok))))))) (rmk (rhd (rtl (rtl (rtl (rtl (rtl (rtl (rtl hok)))))))) (rmk (rhd (rtl (rtl (rtl (rtl (rtl (rtl (rtl (rtl hok))))))))) trivial))) (by omega) (by omega)
  by_cases n2 : r2 < 0
  · exact ⟨-1, go121 fun n hn => Ev.now fun fuel => by unfold T121; exact (call_step (f0 n (by omega))).trans <| (bif_neg n0).trans <| (call_step (f1 n (by omega))).trans <| (bif_neg n1).trans <| (call_step (f2 n (by omega))).trans <| (bif_pos n2), by omega⟩
  have l2 := (g2 (by omega)).1
  have s6 := shd (g2 (by omega)).2
  have s7 := shd (stl (g2 (by omega)).2)
  have s8 := shd (stl (stl (g2 (by omega)).2))
  obtain ⟨r3, f3, g3⟩ := sz173 (@vL K3 a0.2.2.2.2.2.2.2.2.2.1) r2 (rmk (rhd (rtl (rtl (rtl (rtl (rtl (rtl (rtl (rtl (rtl hok)))))))))) trivial) (by omega) (by omega)
  by_cases n3 : r3 < 0
  · exact ⟨-1, go121 fun n hn => Ev.now fun fuel => by unfold T121; exact (call_step (f0 n (by omega))).trans <| (bif_neg n0).trans <| (call_step (f1 n (by omega))).trans <| (bif_neg n1).trans <| (call_step (f2 n (by omega))).trans <| (bif_neg n2).trans <| (call_step (f3 n (by omega))).trans <| (bif_pos n3), by omega⟩
  have l3 := (g3 (by omega)).1
  have s9 := shd (g3 (by omega)).2
  obtain ⟨r4, f4, g4⟩ := sz173 (@vL K3 a0.2.2.2.2.2.2.2.2.2.2.1) r3 (rmk (rhd (rtl (rtl (rtl (rtl (rtl (rtl (rtl (rtl (rtl (rtl hok))))))))))) trivial) (by omega) (by omega)
  by_cases n4 : r4 < 0
  · exact ⟨-1, go121 fun n hn => Ev.now fun fuel => by unfold T121; exact (call_step (f0 n (by omega))).trans <| (bif_neg n0).trans <| (call_step (f1 n (by omega))).trans <| (bif_neg n1).trans <| (call_step (f2 n (by omega))).trans <| (bif_neg n2).trans <| (call_step (f3 n (by omega))).trans <| (bif_neg n3).trans <| (call_step (f4 n (by omega))).trans <| (bif_pos n4), by omega⟩
  have l4 := (g4 (by omega)).1
  have s10 := shd (g4 (by omega)).2
  obtain ⟨r5, f5, g5⟩ := sz174 (@vL K41 a0.2.2.2.2.2.2.2.2.2.2.2.1) r4 (rmk (rhd (rtl (rtl (rtl (rtl (rtl (rtl (rtl (rtl (rtl (rtl (rtl hok)))))))))))) trivial) (by omega) (by omega)
  by_cases n5 : r5 < 0
  · exact ⟨-1, go121 fun n hn => Ev.now fun fuel => by unfold T121; exact (call_step (f0 n (by omega))).trans <| (bif_neg n0).trans <| (call_step (f1 n (by omega))).trans <| (bif_neg n1).trans <| (call_step (f2 n (by omega))).trans <| (bif_neg n2).trans <| (call_step (f3 n (by omega))).trans <| (bif_neg n3).trans <| (call_step (f4 n (by omega))).trans <| (bif_neg n4).trans <| (call_step (f5 n (by omega))).trans <| (bif_pos n5), by omega⟩
  have l5 := (g5 (by omega)).1
  have s11 := shd (g5 (by omega)).2
  obtain ⟨r6, f6, g6⟩ := sz175 (@vL K239 a0.2.2.2.2.2.2.2.2.2.2.2.2.2.2.1) r5 (rmk (rhd (rtl (rtl (rtl (rtl (rtl (rtl (rtl (rtl (rtl (rtl (rtl (rtl (rtl (rtl hok))))))))))))))) trivial) (by omega) (by omega)
  by_cases n6 : r6 < 0
  · exact ⟨-1, go121 fun n hn => Ev.now fun fuel => by unfold T121; exact (call_step (f0 n (by omega))).trans <| (bif_neg n0).trans <| (call_step (f1 n (by omega))).trans <| (bif_neg n1).trans <| (call_step (f2 n (by omega))).trans <| (bif_neg n2).trans <| (call_step (f3 n (by omega))).trans <| (bif_neg n3).trans <| (call_step (f4 n (by omega))).trans <| (bif_neg n4).trans <| (call_step (f5 n (by omega))).trans <| (bif_neg n5).trans <| (call_step (f6 n (by omega))).trans <| (bif_pos n6), by omega⟩
  have l6 := (g6 (by omega)).1
  have s14 := shd (g6 (by omega)).2
  obtain ⟨r7, f7, g7⟩ := sz176 (@vL K241 a0.2.2.2.2.2.2.2.2.2.2.2.2.2.2.2.2.2.2.1) r6 (rmk (rhd (rtl (rtl (rtl (rtl (rtl (rtl (rtl (rtl (rtl (rtl (rtl (rtl (rtl (rtl (rtl (rtl (rtl (rtl hok))))))))))))))))))) trivial) (by omega) (by omega)
  by_cases n7 : r7 < 0
  · exact ⟨-1, go121 fun n hn => Ev.now fun fuel => by unfold T121; exact (call_step (f0 n (by omega))).trans <| (bif_neg n0).trans <| (call_step (f1 n (by omega))).trans <| (bif_neg n1).trans <| (call_step (f2 n (by omega))).trans <| (bif_neg n2).trans <| (call_step (f3 n (by omega))).trans <| (bif_neg n3).trans <| (call_step (f4 n (by omega))).trans <| (bif_neg n4).trans <| (call_step (f5 n (by omega))).trans <| (bif_neg n5).trans <| (call_step (f6 n (by omega))).trans <| (bif_neg n6).trans <| (call_step (f7 n (by omega))).trans <| (bif_pos n7), by omega⟩
  have l7 := (g7 (by omega)).1
  have s18 := shd (g7 (by omega)).2
  exact ⟨r7, go121 fun n hn => Ev.now fun fuel => by unfold T121; exact (call_step (f0 n (by omega))).trans <| (bif_neg n0).trans <| (call_step (f1 n (by omega))).trans <| (bif_neg n1).trans <| (call_step (f2 n (by omega))).trans <| (bif_neg n2).trans <| (call_step (f3 n (by omega))).trans <| (bif_neg n3).trans <| (call_step (f4 n (by omega))).trans <| (bif_neg n4).trans <| (call_step (f5 n (by omega))).trans <| (bif_neg n5).trans <| (call_step (f6 n (by omega))).trans <| (bif_neg n6).trans <| (call_step (f7 n (by omega))).trans <| (bif_neg n7).trans <|  rfl, fun _ => ⟨by omega, (smk trivial (smk trivial (smk s2 (smk s3 (smk s4 (smk s5 (smk s6 (smk s7 (smk s8 (smk s9 (smk s10 (smk s11 (smk trivial (smk trivial (smk s14 (smk trivial (smk trivial (smk trivial (smk s18 trivial)))))))))))))))))))⟩⟩
theorem to124 (a0 : Row K145) (hs : Small K145 a0) : Ran p 7 124 [.val true ⟨K145, a0⟩] ⟨[⟨K65, a0⟩], []⟩ := go124 fun n hn => Ev.now fun fuel => by
  unfold T124; exact (call_step (to178 ((@vL K264 a0.2.2.1), (@vL K267 a0.2.2.2.1), ()) (smk (shd (stl (stl hs))) (smk (shd (stl (stl (stl hs)))) trivial)) n (by omega))).trans <| (call_step (to179 ((@vL K3 a0.2.2.2.2.1), (vI a0.2.2.2.2.2.1), ()) (smk (shd (stl (stl (stl (stl hs))))) (smk (shd (stl (stl (stl (stl (stl hs)))))) trivial)) n (by omega))).trans <| (call_step (to180 ((vI a0.2.2.2.2.2.2.1), (vI a0.2.2.2.2.2.2.2.1), (@vL K137 a0.2.2.2.2.2.2.2.2.1), ()) (smk (shd (stl (stl (stl (stl (stl (stl hs))))))) (smk (shd (stl (stl (stl (stl (stl (stl (stl hs)))))))) (smk (shd (stl (stl (stl (stl (stl (stl (stl (stl hs))))))))) trivial))) n (by omega))).trans <| (call_step (to24 (@vL K3 a0.2.2.2.2.2.2.2.2.2.1) (smk (shd (stl (stl (stl (stl (stl (stl (stl (stl (stl hs)))))))))) trivial) n (by omega))).trans <| (call_step (to24 (@vL K3 a0.2.2.2.2.2.2.2.2.2.2.1) (smk (shd (stl (stl (stl (stl (stl (stl (stl (stl (stl (stl hs))))))))))) trivial) n (by omega))).trans <| (call_step (to181 (@vL K41 a0.2.2.2.2.2.2.2.2.2.2.2.1) (smk (shd (stl (stl (stl (stl (stl (stl (stl (stl (stl (stl (stl hs)))))))))))) trivial) n (by omega))).trans <| (call_step (to182 (@vL K239 a0.2.2.2.2.2.2.2.2.2.2.2.2.2.2.1) (smk (shd (stl (stl (stl (stl (stl (stl (stl (stl (stl (stl (stl (stl (stl (stl hs))))))))))))))) trivial) n (by omega))).trans <| (call_step (to183 (@vL K241 a0.2.2.2.2.2.2.2.2.2.2.2.2.2.2.2.2.2.2.1) (smk (shd (stl (stl (stl (stl (stl (stl (stl (stl (stl (stl (stl (stl (stl (stl (stl (stl (stl (stl hs))))))))))))))))))) trivial) n (by omega))).trans <|  rfl
theorem eq127 (a0 : Row K65) (hs : Small K65 a0) : Ran p 7 127 [.val true ⟨K65, a0⟩, .val true ⟨K65, a0⟩] ⟨[⟨K4, (true, ())⟩], []⟩ := go127 fun n hn => Ev.now fun fuel => by
  have f0 := eq185 ((@vL K83 a0.2.2.1), (@vL K106 a0.2.2.2.1), ()) (smk (shd (stl (stl hs))) (smk (shd (stl (stl (stl hs)))) trivial)) n (by omega)
  have f1 := eq186 ((@vL K3 a0.2.2.2.2.1), (vI a0.2.2.2.2.2.1), ()) (smk (shd (stl (stl (stl (stl hs))))) (smk (shd (stl (stl (stl (stl (stl hs)))))) trivial)) n (by omega)
  have f2 := eq187 ((vI a0.2.2.2.2.2.2.1), (vI a0.2.2.2.2.2.2.2.1), (@vL K55 a0.2.2.2.2.2.2.2.2.1), ()) (smk (shd (stl (stl (stl (stl (stl (stl hs))))))) (smk (shd (stl (stl (stl (stl (stl (stl (stl hs)))))))) (smk (shd (stl (stl (stl (stl (stl (stl (stl (stl hs))))))))) trivial))) n (by omega)
  have f3 := eq26 (@vL K3 a0.2.2.2.2.2.2.2.2.2.1) (smk (shd (stl (stl (stl (stl (stl (stl (stl (stl (stl hs)))))))))) trivial) n (by omega)
  have f4 := eq26 (@vL K3 a0.2.2.2.2.2.2.2.2.2.2.1) (smk (shd (stl (stl (stl (stl (stl (stl (stl (stl (stl (stl hs))))))))))) trivial) n (by omega)
  have f5 := eq188 (@vL K41 a0.2.2.2.2.2.2.2.2.2.2.2.1) (smk (shd (stl (stl (stl (stl (stl (stl (stl (stl (stl (stl (stl hs)))))))))))) trivial) n (by omega)
  have f6 := eq189 (@vL K102 a0.2.2.2.2.2.2.2.2.2.2.2.2.2.2.1) (smk (shd (stl (stl (stl (stl (stl (stl (stl (stl (stl (stl (stl (stl (stl (stl hs))))))))))))))) trivial) n (by omega)
  have f7 := eq190 (@vL K104 a0.2.2.2.2.2.2.2.2.2.2.2.2.2.2.2.2.2.2.1) (smk (shd (stl (stl (stl (stl (stl (stl (stl (stl (stl (stl (stl (stl (stl (stl (stl (stl (stl (stl hs))))))))))))))))))) trivial) n (by omega)
  unfold T127; simp only [call_step' f0, call_step' f1, call_step' f2, call_step' f3, call_step' f4, call_step' f5, call_step' f6, call_step' f7, bne_self_eq_false, beq_self_eq_true, beqB_self, Bool.not_true, cond_false, cond_true]
theorem sz59 (a0_0 : List (Row K145)) (left : Int) (hok : ROkay K33 (a0_0, ())) (h0 : 0 ≤ left) (h1 : left ≤ 1048576) : ∃ r : Int, Ran p 8 59 [.val false ⟨K33, (a0_0, ())⟩, .val false ⟨K3, (left, ())⟩] ⟨[⟨K3, (r, ())⟩], []⟩ ∧ (0 ≤ r → r ≤ left ∧ Small K33 (a0_0, ())) := by
  have hl : ((List.length a0_0 : Nat) : Int) ≤ 9223372036854775807 := by have := (rsl hok).1; exact Int.ofNat_le.2 this
  have hw : IntKind.i64.wrap (left - ((List.length a0_0 : Nat) : Int)) = left - ((List.length a0_0 : Nat) : Int) := wrap64 (by omega) (by omega)
  by_cases hn : left - ((List.length a0_0 : Nat) : Int) < 0
  · exact ⟨-1, go59 fun n hn' => Ev.now fun fuel => by unfold T59; rw [hw]; exact bif_pos hn, by omega⟩
  · refine szl_fact (p := p) (lvl := 7) (xs := a0_0) (S := fun r => Small K145 r) (st := fun (i : Nat) (l : Int) => (l, (i : Int))) (W := fun n fuel => T59 (arun p n) fuel a0_0 left) (c := fun n fuel (_ : Unit) => c59_5 (arun p n) fuel a0_0) (l0 := left - ((List.length a0_0 : Nat) : Int)) (f := fun x l => [.val true ⟨K145, x⟩, .val false ⟨K3, (l, ())⟩]) (q := 121) (r0 := fun r => ⟨[⟨K3, (r, ())⟩], []⟩) ?_ ?_ ?_ ?_ (by omega) (by omega) (fun r hr hp => ⟨r, go59 fun n hn => hr n hn, fun h => ⟨by have := (hp h).1; omega, ssm (Int.ofNat_le.1 (by show _ ≤ (1048576 : Int); omega)) fun i r hr => ?_⟩⟩)
    · intro i hi l h2 h3; obtain ⟨r, f, g⟩ := sz121 a0_0[i] l ((rsl hok).2 i a0_0[i] (at_lt hi)) h2 h3; exact ⟨r, g, fun n hn => f n (by omega)⟩
    · intro n _ fuel; show T59 (arun p n) fuel a0_0 left = _; unfold T59; rw [hw]; exact bif_neg hn
    · intro n fuel a rec i hi l r hr; replace hr : arun p n 121 [.val true ⟨K145, a0_0[i]⟩, .val false ⟨K3, (l, ())⟩] = some ⟨[⟨K3, (r, ())⟩], []⟩ := hr; show c59_5 (arun p n) fuel a0_0 rec (l, (i : Int)) = _; unfold c59_5; simp only [dec_lt hi, dec_nn, Int.toNat_natCast, at_lt hi, Option.bind_some, cond_true, call_step' hr, wrap_succ (show i < 9223372036854775807 by omega)]
    · intro n fuel a rec l; show c59_5 (arun p n) fuel a0_0 rec (l, ((List.length a0_0 : Nat) : Int)) = _; unfold c59_5; simp only [dec_end, cond_false]
    · obtain ⟨hi, rfl⟩ := at_some hr; have := (hp h).2 i hi; exact this
theorem to62 (a0_0 : List (Row K145)) (hs : Small K33 (a0_0, ())) : Ran p 8 62 [.val false ⟨K33, (a0_0, ())⟩] ⟨[⟨K24, (a0_0, ())⟩], []⟩ := go62 fun n hn => by
  have hl : List.length a0_0 ≤ 1048576 := (ssl hs).1
  refine Ev.eq (fun fuel => by unfold T62; exact bif_and3 (Int.natCast_nonneg _) (Int.ofNat_le.2 (Nat.le_trans hl (by decide))) rfl) ?_
  refine It.ev (c := fun fuel (_ : Unit) => c62_3 (arun p n) fuel a0_0) (i := ()) (r := fun _ => some ⟨[⟨K24, (a0_0, ())⟩], []⟩) ?_ rfl
  refine to_loop (α := Row K65) a0_0 (zeroRow K65) (fun i ys => ((i : Int), ys)) (fun i hi ys hy fuel a rec => ?_) (fun fuel a rec => ?_)
  · have hy' : i < ys.length := by rw [hy]; exact hi
    have hi1 : i < List.length (α := Row K145) a0_0 := hi
    have hb : i < 9223372036854775807 := Nat.lt_of_lt_of_le hi (Nat.le_trans hl (by decide))
    have f := to124 a0_0[i] ((ssl hs).2 i a0_0[i] (at_lt hi)) n (by omega)
    show c62_3 (arun p n) fuel a0_0 rec ((i : Int), ys) = _; unfold c62_3; simp only [dec_lt hi1, dec_nn, Int.toNat_natCast, at_lt hi1, at_lt hy', Option.bind_some, cond_true, call_step' f, wrap_succ hb] <;> rfl
  · show c62_3 (arun p n) fuel a0_0 rec (((List.length a0_0 : Nat) : Int), a0_0) = _; unfold c62_3; simp only [dec_end, cond_false] <;> rfl
theorem eq65 (a0_0 : List (Row K65)) (hs : Small K24 (a0_0, ())) : Ran p 8 65 [.val false ⟨K24, (a0_0, ())⟩, .val false ⟨K24, (a0_0, ())⟩] ⟨[⟨K4, (true, ())⟩], []⟩ := go65 fun n hn => by
  have hl : List.length a0_0 ≤ 1048576 := (ssl hs).1
  refine Ev.eq (fun fuel => by unfold T65; simp only [bne_self_eq_false, cond_false]; rfl) ?_
  refine It.ev (c := fun fuel (_ : Unit) => c65_4 (arun p n) fuel a0_0 a0_0) (i := ()) (r := fun _ => some ⟨[⟨K4, (true, ())⟩], []⟩) ?_ rfl
  refine eq_loop a0_0.length (fun i => (i : Int)) (fun i hi fuel a rec => ?_) (fun fuel a rec => ?_)
  · have f := eq127 a0_0[i] ((ssl hs).2 i a0_0[i] (at_lt hi)) n (by omega)
    show c65_4 (arun p n) fuel a0_0 a0_0 rec (i : Int) = _; unfold c65_4; simp only [dec_lt hi, dec_nn, Int.toNat_natCast, at_lt hi, Option.bind_some, cond_true, cond_false, bne_self_eq_false, Bool.not_true, call_step' f, wrap_succ (show i < 9223372036854775807 by omega)]
  · show c65_4 (arun p n) fuel a0_0 a0_0 rec ((List.length a0_0 : Nat) : Int) = _; unfold c65_4; simp only [dec_end, cond_false]
theorem sz20 (a0 : Row K37) (left : Int) (hok : ROkay K37 a0) (h0 : 0 ≤ left) (h1 : left ≤ 1048576) : ∃ r : Int, Ran p 9 20 [.val true ⟨K37, a0⟩, .val false ⟨K3, (left, ())⟩] ⟨[⟨K3, (r, ())⟩], []⟩ ∧ (0 ≤ r → r ≤ left ∧ Small K37 a0) := by
  obtain ⟨r0, f0, g0⟩ := sz59 (@vL K145 a0.1) left (rmk (rhd hok) trivial) (by omega) (by omega)
  by_cases n0 : r0 < 0
  · exact ⟨-1, go20 fun n hn => Ev.now fun fuel => by unfold T20; exact (call_step (f0 n (by omega))).trans <| (bif_pos n0), by omega⟩
  have l0 := (g0 (by omega)).1
  have s0 := shd (g0 (by omega)).2
  obtain ⟨r1, f1, g1⟩ := sz60 (@vL K147 a0.2.1) r0 (rmk (rhd (rtl hok)) trivial) (by omega) (by omega)
  by_cases n1 : r1 < 0
  · exact ⟨-1, go20 fun n hn => Ev.now fun fuel => by unfold T20; exact (call_step (f0 n (by omega))).trans <| (bif_neg n0).trans <| (call_step (f1 n (by omega))).trans <| (bif_pos n1), by omega⟩
  have l1 := (g1 (by omega)).1
  have s1 := shd (g1 (by omega)).2
  obtain ⟨r2, f2, g2⟩ := sz61 (@vL K150 a0.2.2.1) r1 (rmk (rhd (rtl (rtl hok))) trivial) (by omega) (by omega)
  by_cases n2 : r2 < 0
  · exact ⟨-1, go20 fun n hn => Ev.now fun fuel => by unfold T20; exact (call_step (f0 n (by omega))).trans <| (bif_neg n0).trans <| (call_step (f1 n (by omega))).trans <| (bif_neg n1).trans <| (call_step (f2 n (by omega))).trans <| (bif_pos n2), by omega⟩
  have l2 := (g2 (by omega)).1
  have s2 := shd (g2 (by omega)).2
  exact ⟨r2, go20 fun n hn => Ev.now fun fuel => by unfold T20; exact (call_step (f0 n (by omega))).trans <| (bif_neg n0).trans <| (call_step (f1 n (by omega))).trans <| (bif_neg n1).trans <| (call_step (f2 n (by omega))).trans <| (bif_neg n2).trans <|  rfl, fun _ => ⟨by omega, (smk s0 (smk s1 (smk s2 trivial)))⟩⟩
theorem to21 (a0 : Row K37) (hs : Small K37 a0) : Ran p 9 21 [.val true ⟨K37, a0⟩] ⟨[⟨K28, a0⟩], []⟩ := go21 fun n hn => Ev.now fun fuel => by
  unfold T21; exact (call_step (to62 (@vL K145 a0.1) (smk (shd hs) trivial) n (by omega))).trans <| (call_step (to63 (@vL K147 a0.2.1) (smk (shd (stl hs)) trivial) n (by omega))).trans <| (call_step (to64 (@vL K150 a0.2.2.1) (smk (shd (stl (stl hs))) trivial) n (by omega))).trans <|  rfl
theorem eq22 (a0 : Row K28) (hs : Small K28 a0) : Ran p 9 22 [.val true ⟨K28, a0⟩, .val true ⟨K28, a0⟩] ⟨[⟨K4, (true, ())⟩], []⟩ := go22 fun n hn => Ev.now fun fuel => by
  have f0 := eq65 (@vL K65 a0.1) (smk (shd hs) trivial) n (by omega)
  have f1 := eq66 (@vL K67 a0.2.1) (smk (shd (stl hs)) trivial) n (by omega)
  have f2 := eq67 (@vL K69 a0.2.2.1) (smk (shd (stl (stl hs))) trivial) n (by omega)
  unfold T22; simp only [call_step' f0, call_step' f1, call_step' f2, bne_self_eq_false, beq_self_eq_true, beqB_self, Bool.not_true, cond_false, cond_true]
end Go.Abs.Tz
