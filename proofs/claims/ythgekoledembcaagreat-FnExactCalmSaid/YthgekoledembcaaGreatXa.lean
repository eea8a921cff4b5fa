/- What the functions of this program answer, part a. -/
import Derived.Test.YthgekoledembcaaGreatXr0
import Derived.Test.YthgekoledembcaaGreatXr1
import Derived.Test.YthgekoledembcaaGreatW2
set_option linter.unusedVariables false
set_option linter.unusedSimpArgs false
namespace Go.Abs.Gz
open Go Go.Abs
theorem eq20 (a0_0 : List (Row K3)) (hs : LmR K43 (a0_0, ())) : Ran p 1 20 [.val false ⟨K43, (a0_0, ())⟩, .val false ⟨K43, (a0_0, ())⟩] ⟨[⟨K4, (true, ())⟩], []⟩ := go20 fun n hn => by
 have hl : List.length a0_0 ≤ 4611686018427387904 := (lsl hs).1
 refine Ev.eq (fun fuel => by unfold T20; simp only [bne_self_eq_false, cond_false]; rfl) ?_
 refine It.ev (c := fun fuel (_ : Unit) => c20_4 (arun p n) fuel a0_0 a0_0) (i := ()) (r := fun _ => some ⟨[⟨K4, (true, ())⟩], []⟩) ?_ rfl
 refine eq_loop a0_0.length (fun i => (i : Int)) (fun i hi fuel a rec => ?_) (fun fuel a rec => ?_)
 ·skip
  show c20_4 (arun p n) fuel a0_0 a0_0 rec (i : Int) = _; unfold c20_4; simp only [dec_lt hi, dec_nn, Int.toNat_natCast, at_lt hi, Option.bind_some, cond_true, cond_false, bne_self_eq_false, Bool.not_true, wrap_succ (show i < 9223372036854775807 by omega)]
 ·show c20_4 (arun p n) fuel a0_0 a0_0 rec ((List.length a0_0 : Nat) : Int) = _; unfold c20_4; simp only [dec_end, cond_false]
theorem to29 (a0_0 : List (Row K3)) (hs : Small K43 (a0_0, ())) : Ran p 1 29 [.val false ⟨K43, (a0_0, ())⟩] ⟨[⟨K43, (a0_0, ())⟩], []⟩ := go29 fun n hn => by
 have hl : List.length a0_0 ≤ 1048576 := (ssl hs).1
 refine Ev.eq (fun fuel => by unfold T29; exact bif_and3 (Int.natCast_nonneg _) (Int.ofNat_le.2 (Nat.le_trans hl (by decide))) rfl) ?_
 refine It.ev (c := fun fuel (_ : Unit) => c29_3 (arun p n) fuel a0_0) (i := ()) (r := fun _ => some ⟨[⟨K43, (a0_0, ())⟩], []⟩) ?_ rfl
 refine to_loop (α := Row K3) a0_0 (zeroRow K3) (fun i ys => ((i : Int), ys)) (fun i hi ys hy fuel a rec => ?_) (fun fuel a rec => ?_)
 ·have hy' : i < ys.length := by rw [hy]; exact hi
  have hi1 : i < List.length (α := Row K3) a0_0 := hi
  have hb : i < 9223372036854775807 := Nat.lt_of_lt_of_le hi (Nat.le_trans hl (by decide))
  show c29_3 (arun p n) fuel a0_0 rec ((i : Int), ys) = _; unfold c29_3; simp only [dec_lt hi1, dec_nn, Int.toNat_natCast, at_lt hi1, at_lt hy', Option.bind_some, cond_true, wrap_succ hb] <;> rfl
 ·show c29_3 (arun p n) fuel a0_0 rec (((List.length a0_0 : Nat) : Int), a0_0) = _; unfold c29_3; simp only [dec_end, cond_false] <;> rfl
theorem sz52 (a0_0 : List (Row K149)) (left : Int) (hok : ROkay K38 (a0_0, ())) (h0 : 0 ≤ left) (h1 : left ≤ 1048576) : ∃ r : Int, Ran p 1 52 [.val false ⟨K38, (a0_0, ())⟩, .val false ⟨K3, (left, ())⟩] ⟨[⟨K3, (r, ())⟩], []⟩ ∧ (0 ≤ r → r + szR K38 (a0_0, ()) ≤ left ∧ Small K38 (a0_0, ())) := by
 have hl : ((List.length a0_0 : Nat) : Int) ≤ 9223372036854775807 := by have := (rsl hok).1; exact Int.ofNat_le.2 this
 have hw : IntKind.i64.wrap (left - ((List.length a0_0 : Nat) : Int)) = left - ((List.length a0_0 : Nat) : Int) := wrap64 (by omega) (by omega)
 by_cases hn : left - ((List.length a0_0 : Nat) : Int) < 0
 ·exact ⟨-1, go52 fun n hn' => Ev.now fun fuel => by unfold T52; rw [hw]; exact bif_pos hn, by omega⟩
 ·refine ⟨left - ((List.length a0_0 : Nat) : Int), go52 fun n hn' => Ev.now fun fuel => by unfold T52; rw [hw]; exact bif_neg hn, fun _ => ⟨by show _ + (((List.length a0_0 : Nat) : Int) + sumI (szR K149) a0_0 + 0) ≤ left; rw [sumI_zero (c := szR K149) (fun x => rfl) a0_0]; omega, ssm (Int.ofNat_le.1 (by show _ ≤ (1048576 : Int); omega)) fun i r _ => ?_⟩⟩
  exact (smk trivial (smk trivial trivial))
theorem to108 (a0 : Row K149) (hs : Small K149 a0) : Ran p 1 108 [.val true ⟨K149, a0⟩] ⟨[⟨K143, a0⟩], []⟩ := go108 fun n hn => Ev.now fun fuel => by
 unfold T108; exact  rfl
theorem eq115 (a0 : Row K143) (hs : LmR K143 a0) : Ran p 1 115 [.val true ⟨K143, a0⟩, .val true ⟨K143, a0⟩] ⟨[⟨K4, (true, ())⟩], []⟩ := go115 fun n hn => Ev.now fun fuel => by
 unfold T115; simp only [bne_self_eq_false, beq_self_eq_true, beqB_self, Bool.not_true, cond_false, cond_true]
theorem eq151 (a0_0 : List (Row K5)) (hs : LmR K106 (a0_0, ())) : Ran p 1 151 [.val false ⟨K106, (a0_0, ())⟩, .val false ⟨K106, (a0_0, ())⟩] ⟨[⟨K4, (true, ())⟩], []⟩ := go151 fun n hn => by
 have hl : List.length a0_0 ≤ 4611686018427387904 := (lsl hs).1
 refine Ev.eq (fun fuel => by unfold T151; simp only [bne_self_eq_false, cond_false]; rfl) ?_
 refine It.ev (c := fun fuel (_ : Unit) => c151_4 (arun p n) fuel a0_0 a0_0) (i := ()) (r := fun _ => some ⟨[⟨K4, (true, ())⟩], []⟩) ?_ rfl
 refine eq_loop a0_0.length (fun i => (i : Int)) (fun i hi fuel a rec => ?_) (fun fuel a rec => ?_)
 ·skip
  show c151_4 (arun p n) fuel a0_0 a0_0 rec (i : Int) = _; unfold c151_4; simp only [dec_lt hi, dec_nn, Int.toNat_natCast, at_lt hi, Option.bind_some, cond_true, cond_false, bne_self_eq_false, Bool.not_true, wrap_succ (show i < 9223372036854775807 by omega)]
 ·show c151_4 (arun p n) fuel a0_0 a0_0 rec ((List.length a0_0 : Nat) : Int) = _; unfold c151_4; simp only [dec_end, cond_false]
theorem sz154 (a0_0 : List (Row K3)) (left : Int) (hok : ROkay K43 (a0_0, ())) (h0 : 0 ≤ left) (h1 : left ≤ 1048576) : ∃ r : Int, Ran p 1 154 [.val false ⟨K43, (a0_0, ())⟩, .val false ⟨K3, (left, ())⟩] ⟨[⟨K3, (r, ())⟩], []⟩ ∧ (0 ≤ r → r + szR K43 (a0_0, ()) ≤ left ∧ Small K43 (a0_0, ())) := by
 have hl : ((List.length a0_0 : Nat) : Int) ≤ 9223372036854775807 := by have := (rsl hok).1; exact Int.ofNat_le.2 this
 have hw : IntKind.i64.wrap (left - ((List.length a0_0 : Nat) : Int)) = left - ((List.length a0_0 : Nat) : Int) := wrap64 (by omega) (by omega)
 by_cases hn : left - ((List.length a0_0 : Nat) : Int) < 0
 ·exact ⟨-1, go154 fun n hn' => Ev.now fun fuel => by unfold T154; rw [hw]; exact bif_pos hn, by omega⟩
 ·refine ⟨left - ((List.length a0_0 : Nat) : Int), go154 fun n hn' => Ev.now fun fuel => by unfold T154; rw [hw]; exact bif_neg hn, fun _ => ⟨by show _ + (((List.length a0_0 : Nat) : Int) + sumI (szR K3) a0_0 + 0) ≤ left; rw [sumI_zero (c := szR K3) (fun x => rfl) a0_0]; omega, ssm (Int.ofNat_le.1 (by show _ ≤ (1048576 : Int); omega)) fun i r _ => ?_⟩⟩
  exact (smk trivial trivial)
theorem sz156 (a0_0 : List (Row K206)) (left : Int) (hok : ROkay K123 (a0_0, ())) (h0 : 0 ≤ left) (h1 : left ≤ 1048576) : ∃ r : Int, Ran p 1 156 [.val false ⟨K123, (a0_0, ())⟩, .val false ⟨K3, (left, ())⟩] ⟨[⟨K3, (r, ())⟩], []⟩ ∧ (0 ≤ r → r + szR K123 (a0_0, ()) ≤ left ∧ Small K123 (a0_0, ())) := by
 have hl : ((List.length a0_0 : Nat) : Int) ≤ 9223372036854775807 := by have := (rsl hok).1; exact Int.ofNat_le.2 this
 have hw : IntKind.i64.wrap (left - ((List.length a0_0 : Nat) : Int)) = left - ((List.length a0_0 : Nat) : Int) := wrap64 (by omega) (by omega)
 by_cases hn : left - ((List.length a0_0 : Nat) : Int) < 0
 ·exact ⟨-1, go156 fun n hn' => Ev.now fun fuel => by unfold T156; rw [hw]; exact bif_pos hn, by omega⟩
 ·refine ⟨left - ((List.length a0_0 : Nat) : Int), go156 fun n hn' => Ev.now fun fuel => by unfold T156; rw [hw]; exact bif_neg hn, fun _ => ⟨by show _ + (((List.length a0_0 : Nat) : Int) + sumI (szR K206) a0_0 + 0) ≤ left; rw [sumI_zero (c := szR K206) (fun x => rfl) a0_0]; omega, ssm (Int.ofNat_le.1 (by show _ ≤ (1048576 : Int); omega)) fun i r _ => ?_⟩⟩
  exact (smk trivial (smk trivial (smk trivial (smk trivial trivial))))
theorem sz157 (a0_0 : List (Row K208)) (left : Int) (hok : ROkay K124 (a0_0, ())) (h0 : 0 ≤ left) (h1 : left ≤ 1048576) : ∃ r : Int, Ran p 1 157 [.val false ⟨K124, (a0_0, ())⟩, .val false ⟨K3, (left, ())⟩] ⟨[⟨K3, (r, ())⟩], []⟩ ∧ (0 ≤ r → r + szR K124 (a0_0, ()) ≤ left ∧ Small K124 (a0_0, ())) := by
 have hl : ((List.length a0_0 : Nat) : Int) ≤ 9223372036854775807 := by have := (rsl hok).1; exact Int.ofNat_le.2 this
 have hw : IntKind.i64.wrap (left - ((List.length a0_0 : Nat) : Int)) = left - ((List.length a0_0 : Nat) : Int) := wrap64 (by omega) (by omega)
 by_cases hn : left - ((List.length a0_0 : Nat) : Int) < 0
 ·exact ⟨-1, go157 fun n hn' => Ev.now fun fuel => by unfold T157; rw [hw]; exact bif_pos hn, by omega⟩
 ·refine ⟨left - ((List.length a0_0 : Nat) : Int), go157 fun n hn' => Ev.now fun fuel => by unfold T157; rw [hw]; exact bif_neg hn, fun _ => ⟨by show _ + (((List.length a0_0 : Nat) : Int) + sumI (szR K208) a0_0 + 0) ≤ left; rw [sumI_zero (c := szR K208) (fun x => rfl) a0_0]; omega, ssm (Int.ofNat_le.1 (by show _ ≤ (1048576 : Int); omega)) fun i r _ => ?_⟩⟩
  exact (smk trivial (smk trivial (smk trivial trivial)))
theorem sz158 (a0_0 : List (Row K5)) (left : Int) (hok : ROkay K106 (a0_0, ())) (h0 : 0 ≤ left) (h1 : left ≤ 1048576) : ∃ r : Int, Ran p 1 158 [.val false ⟨K106, (a0_0, ())⟩, .val false ⟨K3, (left, ())⟩] ⟨[⟨K3, (r, ())⟩], []⟩ ∧ (0 ≤ r → r + szR K106 (a0_0, ()) ≤ left ∧ Small K106 (a0_0, ())) := by
 have hl : ((List.length a0_0 : Nat) : Int) ≤ 9223372036854775807 := by have := (rsl hok).1; exact Int.ofNat_le.2 this
 have hw : IntKind.i64.wrap (left - ((List.length a0_0 : Nat) : Int)) = left - ((List.length a0_0 : Nat) : Int) := wrap64 (by omega) (by omega)
 by_cases hn : left - ((List.length a0_0 : Nat) : Int) < 0
 ·exact ⟨-1, go158 fun n hn' => Ev.now fun fuel => by unfold T158; rw [hw]; exact bif_pos hn, by omega⟩
 ·refine ⟨left - ((List.length a0_0 : Nat) : Int), go158 fun n hn' => Ev.now fun fuel => by unfold T158; rw [hw]; exact bif_neg hn, fun _ => ⟨by show _ + (((List.length a0_0 : Nat) : Int) + sumI (szR K5) a0_0 + 0) ≤ left; rw [sumI_zero (c := szR K5) (fun x => rfl) a0_0]; omega, ssm (Int.ofNat_le.1 (by show _ ≤ (1048576 : Int); omega)) fun i r _ => ?_⟩⟩
  exact (smk trivial trivial)
theorem sz159 (a0 : Row K134) (left : Int) (hok : ROkay K134 a0) (h0 : 0 ≤ left) (h1 : left ≤ 1048576) : ∃ r : Int, Ran p 1 159 [.val true ⟨K134, a0⟩, .val false ⟨K3, (left, ())⟩] ⟨[⟨K3, (r, ())⟩], []⟩ ∧ (0 ≤ r → r + szR K134 a0 ≤ left ∧ Small K134 a0) := by
 have hl : ((ByteArray.size (vS a0.2.2.2.2.1) : Nat) : Int) ≤ 9223372036854775807 := by have := (rhd (rtl (rtl (rtl (rtl hok))))); exact Int.ofNat_le.2 this
 have hw : IntKind.i64.wrap (left - ((ByteArray.size (vS a0.2.2.2.2.1) : Nat) : Int)) = left - ((ByteArray.size (vS a0.2.2.2.2.1) : Nat) : Int) := wrap64 (by omega) (by omega)
 by_cases hn : left - ((ByteArray.size (vS a0.2.2.2.2.1) : Nat) : Int) < 0
 ·exact ⟨-1, go159 fun n hn' => Ev.now fun fuel => by unfold T159; rw [hw]; exact bif_pos hn, by omega⟩
 ·have hz : ByteArray.size (vS a0.2.2.2.2.1) ≤ small := Int.ofNat_le.1 (by show ((ByteArray.size (vS a0.2.2.2.2.1) : Nat) : Int) ≤ (1048576 : Int); omega)
  exact ⟨left - ((ByteArray.size (vS a0.2.2.2.2.1) : Nat) : Int), go159 fun n hn' => Ev.now fun fuel => by unfold T159; rw [hw]; exact bif_neg hn, fun _ => ⟨by show _ + (0 + (0 + (0 + (0 + (((ByteArray.size (vS a0.2.2.2.2.1) : Nat) : Int) + 0))))) ≤ left; omega, (smk trivial (smk trivial (smk trivial (smk trivial (smk hz trivial)))))⟩⟩
theorem to165 (a0_0 : List (Row K5)) (hs : Small K106 (a0_0, ())) : Ran p 1 165 [.val false ⟨K106, (a0_0, ())⟩] ⟨[⟨K106, (a0_0, ())⟩], []⟩ := go165 fun n hn => by
 have hl : List.length a0_0 ≤ 1048576 := (ssl hs).1
 refine Ev.eq (fun fuel => by unfold T165; exact bif_and3 (Int.natCast_nonneg _) (Int.ofNat_le.2 (Nat.le_trans hl (by decide))) rfl) ?_
 refine It.ev (c := fun fuel (_ : Unit) => c165_3 (arun p n) fuel a0_0) (i := ()) (r := fun _ => some ⟨[⟨K106, (a0_0, ())⟩], []⟩) ?_ rfl
 refine to_loop (α := Row K5) a0_0 (zeroRow K5) (fun i ys => ((i : Int), ys)) (fun i hi ys hy fuel a rec => ?_) (fun fuel a rec => ?_)
 ·have hy' : i < ys.length := by rw [hy]; exact hi
  have hi1 : i < List.length (α := Row K5) a0_0 := hi
  have hb : i < 9223372036854775807 := Nat.lt_of_lt_of_le hi (Nat.le_trans hl (by decide))
  show c165_3 (arun p n) fuel a0_0 rec ((i : Int), ys) = _; unfold c165_3; simp only [dec_lt hi1, dec_nn, Int.toNat_natCast, at_lt hi1, at_lt hy', Option.bind_some, cond_true, wrap_succ hb] <;> rfl
 ·show c165_3 (arun p n) fuel a0_0 rec (((List.length a0_0 : Nat) : Int), a0_0) = _; unfold c165_3; simp only [dec_end, cond_false] <;> rfl
theorem to166 (a0 : Row K134) (hs : Small K134 a0) : Ran p 1 166 [.val true ⟨K134, a0⟩] ⟨[⟨K137, a0⟩], []⟩ := go166 fun n hn => Ev.now fun fuel => by
 unfold T166; exact  rfl
theorem eq169 (a0 : Row K137) (hs : LmR K137 a0) : Ran p 1 169 [.val true ⟨K137, a0⟩, .val true ⟨K137, a0⟩] ⟨[⟨K4, (true, ())⟩], []⟩ := go169 fun n hn => Ev.now fun fuel => by
 unfold T169; simp only [bne_self_eq_false, beq_self_eq_true, beqB_self, Bool.not_true, cond_false, cond_true]
theorem eq194 (a0 : Row K163) (hs : LmR K163 a0) : Ran p 1 194 [.val true ⟨K163, a0⟩, .val true ⟨K163, a0⟩] ⟨[⟨K4, (true, ())⟩], []⟩ := go194 fun n hn => Ev.now fun fuel => by
 unfold T194; simp only [bne_self_eq_false, beq_self_eq_true, beqB_self, Bool.not_true, cond_false, cond_true]
theorem eq195 (a0 : Row K171) (hs : LmR K171 a0) : Ran p 1 195 [.val true ⟨K171, a0⟩, .val true ⟨K171, a0⟩] ⟨[⟨K4, (true, ())⟩], []⟩ := go195 fun n hn => Ev.now fun fuel => by
 unfold T195; simp only [bne_self_eq_false, beq_self_eq_true, beqB_self, Bool.not_true, cond_false, cond_true]
theorem to198 (a0 : Row K206) (hs : Small K206 a0) : Ran p 1 198 [.val true ⟨K206, a0⟩] ⟨[⟨K163, a0⟩], []⟩ := go198 fun n hn => Ev.now fun fuel => by
 unfold T198; exact  rfl
theorem to199 (a0 : Row K208) (hs : Small K208 a0) : Ran p 1 199 [.val true ⟨K208, a0⟩] ⟨[⟨K171, a0⟩], []⟩ := go199 fun n hn => Ev.now fun fuel => by
 unfold T199; exact  rfl
theorem to59 (a0_0 : List (Row K149)) (hs : Small K38 (a0_0, ())) : Ran p 2 59 [.val false ⟨K38, (a0_0, ())⟩] ⟨[⟨K47, (a0_0, ())⟩], []⟩ := go59 fun n hn => by
 have hl : List.length a0_0 ≤ 1048576 := (ssl hs).1
 refine Ev.eq (fun fuel => by unfold T59; exact bif_and3 (Int.natCast_nonneg _) (Int.ofNat_le.2 (Nat.le_trans hl (by decide))) rfl) ?_
 refine It.ev (c := fun fuel (_ : Unit) => c59_3 (arun p n) fuel a0_0) (i := ()) (r := fun _ => some ⟨[⟨K47, (a0_0, ())⟩], []⟩) ?_ rfl
 refine to_loop (α := Row K143) a0_0 (zeroRow K143) (fun i ys => ((i : Int), ys)) (fun i hi ys hy fuel a rec => ?_) (fun fuel a rec => ?_)
 ·have hy' : i < ys.length := by rw [hy]; exact hi
  have hi1 : i < List.length (α := Row K149) a0_0 := hi
  have hb : i < 9223372036854775807 := Nat.lt_of_lt_of_le hi (Nat.le_trans hl (by decide))
  have f := to108 a0_0[i] ((ssl hs).2 i a0_0[i] (at_lt hi)) n (by omega)
  show c59_3 (arun p n) fuel a0_0 rec ((i : Int), ys) = _; unfold c59_3; simp only [dec_lt hi1, dec_nn, Int.toNat_natCast, at_lt hi1, at_lt hy', Option.bind_some, cond_true, call_step' f, wrap_succ hb] <;> rfl
 ·show c59_3 (arun p n) fuel a0_0 rec (((List.length a0_0 : Nat) : Int), a0_0) = _; unfold c59_3; simp only [dec_end, cond_false] <;> rfl
theorem eq63 (a0_0 : List (Row K143)) (hs : LmR K47 (a0_0, ())) : Ran p 2 63 [.val false ⟨K47, (a0_0, ())⟩, .val false ⟨K47, (a0_0, ())⟩] ⟨[⟨K4, (true, ())⟩], []⟩ := go63 fun n hn => by
 have hl : List.length a0_0 ≤ 4611686018427387904 := (lsl hs).1
 refine Ev.eq (fun fuel => by unfold T63; simp only [bne_self_eq_false, cond_false]; rfl) ?_
 refine It.ev (c := fun fuel (_ : Unit) => c63_4 (arun p n) fuel a0_0 a0_0) (i := ()) (r := fun _ => some ⟨[⟨K4, (true, ())⟩], []⟩) ?_ rfl
 refine eq_loop a0_0.length (fun i => (i : Int)) (fun i hi fuel a rec => ?_) (fun fuel a rec => ?_)
 ·have f := eq115 a0_0[i] ((lsl hs).2 i a0_0[i] (at_lt hi)) n (by omega)
  show c63_4 (arun p n) fuel a0_0 a0_0 rec (i : Int) = _; unfold c63_4; simp only [dec_lt hi, dec_nn, Int.toNat_natCast, at_lt hi, Option.bind_some, cond_true, cond_false, bne_self_eq_false, Bool.not_true, call_step' f, wrap_succ (show i < 9223372036854775807 by omega)]
 ·show c63_4 (arun p n) fuel a0_0 a0_0 rec ((List.length a0_0 : Nat) : Int) = _; unfold c63_4; simp only [dec_end, cond_false]
theorem eq84 (a0 : Row K108) (hs : LmR K108 a0) : Ran p 2 84 [.val true ⟨K108, a0⟩, .val true ⟨K108, a0⟩] ⟨[⟨K4, (true, ())⟩], []⟩ := go84 fun n hn => Ev.now fun fuel => by
 have f0 := eq151 (@vL K5 a0.2.1) (lmk (lhd (ltl hs)) trivial) n (by omega)
 unfold T84; simp only [call_step' f0, bne_self_eq_false, beq_self_eq_true, beqB_self, Bool.not_true, cond_false, cond_true]
theorem sz97 (a0 : Row K128) (left : Int) (hok : ROkay K128 a0) (h0 : 0 ≤ left) (h1 : left ≤ 1048576) : ∃ r : Int, Ran p 2 97 [.val true ⟨K128, a0⟩, .val false ⟨K3, (left, ())⟩] ⟨[⟨K3, (r, ())⟩], []⟩ ∧ (0 ≤ r → r + szR K128 a0 ≤ left ∧ Small K128 a0) := by
 obtain ⟨r0, f0, g0⟩ := sz158 (@vL K5 a0.2.1) left (rmk (rhd (rtl hok)) trivial) (by omega) (by omega)
 by_cases n0 : r0 < 0
 ·exact ⟨-1, go97 fun n hn => Ev.now fun fuel => by unfold T97; exact (call_step (f0 n (by omega))).trans <| (bif_pos n0), by omega⟩
 have l0 := (g0 (by omega)).1
 replace l0 : r0 + (szT (.sl K5) a0.2.1 + 0) ≤ left := l0
 have z0 : 0 ≤ szR K106 ((@vL K5 a0.2.1), ()) := szR_nn _ _
 replace z0 : 0 ≤ (szT (.sl K5) a0.2.1 + 0) := z0
 have s1 := shd (g0 (by omega)).2
 exact ⟨r0, go97 fun n hn => Ev.now fun fuel => by unfold T97; exact (call_step (f0 n (by omega))).trans <| (bif_neg n0).trans <|  rfl, fun _ => ⟨by show _ + (0 + (szT (.sl K5) a0.2.1 + (0 + 0))) ≤ _; omega, (smk trivial (smk s1 (smk trivial trivial)))⟩⟩
theorem sz99 (a0 : Row K136) (left : Int) (hok : ROkay K136 a0) (h0 : 0 ≤ left) (h1 : left ≤ 1048576) : ∃ r : Int, Ran p 2 99 [.val true ⟨K136, a0⟩, .val false ⟨K3, (left, ())⟩] ⟨[⟨K3, (r, ())⟩], []⟩ ∧ (0 ≤ r → r + szR K136 a0 ≤ left ∧ Small K136 a0) := by
 obtain ⟨r0, f0, g0⟩ := sz159 a0.2 left (rtl hok) (by omega) (by omega)
 by_cases n0 : r0 < 0
 ·exact ⟨-1, go99 fun n hn => Ev.now fun fuel => by unfold T99; exact (call_step (f0 n (by omega))).trans <| (bif_pos n0), by omega⟩
 have l0 := (g0 (by omega)).1
 replace l0 : r0 + (0 + (0 + (0 + (0 + (((ByteArray.size (vS a0.2.2.2.2.2.1) : Nat) : Int) + 0))))) ≤ left := l0
 have z0 : 0 ≤ szR K134 a0.2 := szR_nn _ _
 replace z0 : 0 ≤ (0 + (0 + (0 + (0 + (((ByteArray.size (vS a0.2.2.2.2.2.1) : Nat) : Int) + 0))))) := z0
 have s1 := shd (g0 (by omega)).2
 have s2 := shd (stl (g0 (by omega)).2)
 have s3 := shd (stl (stl (g0 (by omega)).2))
 have s4 := shd (stl (stl (stl (g0 (by omega)).2)))
 have s5 := shd (stl (stl (stl (stl (g0 (by omega)).2))))
 exact ⟨r0, go99 fun n hn => Ev.now fun fuel => by unfold T99; exact (call_step (f0 n (by omega))).trans <| (bif_neg n0).trans <|  rfl, fun _ => ⟨by show _ + (0 + (0 + (0 + (0 + (0 + (((ByteArray.size (vS a0.2.2.2.2.2.1) : Nat) : Int) + 0)))))) ≤ _; omega, (smk trivial (smk s1 (smk s2 (smk s3 (smk s4 (smk s5 trivial))))))⟩⟩
theorem to105 (a0 : Row K128) (hs : Small K128 a0) : Ran p 2 105 [.val true ⟨K128, a0⟩] ⟨[⟨K108, a0⟩], []⟩ := go105 fun n hn => Ev.now fun fuel => by
 unfold T105; exact (call_step (to165 (@vL K5 a0.2.1) (smk (shd (stl hs)) trivial) n (by omega))).trans <|  rfl
theorem to107 (a0 : Row K136) (hs : Small K136 a0) : Ran p 2 107 [.val true ⟨K136, a0⟩] ⟨[⟨K139, a0⟩], []⟩ := go107 fun n hn => Ev.now fun fuel => by
 unfold T107; exact (call_step (to166 a0.2 (stl hs) n (by omega))).trans <|  rfl
theorem eq114 (a0 : Row K139) (hs : LmR K139 a0) : Ran p 2 114 [.val true ⟨K139, a0⟩, .val true ⟨K139, a0⟩] ⟨[⟨K4, (true, ())⟩], []⟩ := go114 fun n hn => Ev.now fun fuel => by
 have f0 := eq169 a0.2 (ltl hs) n (by omega)
 unfold T114; simp only [call_step' f0, bne_self_eq_false, beq_self_eq_true, beqB_self, Bool.not_true, cond_false, cond_true]
theorem eq146 (a0 : Row K65) (hs : LmR K65 a0) : Ran p 2 146 [.val true ⟨K65, a0⟩, .val true ⟨K65, a0⟩] ⟨[⟨K4, (true, ())⟩], []⟩ := go146 fun n hn => Ev.now fun fuel => by
 have f0 := eq20 (@vL K3 a0.1) (lmk (lhd hs) trivial) n (by omega)
 unfold T146; simp only [call_step' f0, bne_self_eq_false, beq_self_eq_true, beqB_self, Bool.not_true, cond_false, cond_true]
theorem eq148 (a0_0 : List (Row K43)) (hs : LmR K69 (a0_0, ())) : Ran p 2 148 [.val false ⟨K69, (a0_0, ())⟩, .val false ⟨K69, (a0_0, ())⟩] ⟨[⟨K4, (true, ())⟩], []⟩ := go148 fun n hn => by
 have hl : List.length a0_0 ≤ 4611686018427387904 := (lsl hs).1
 refine Ev.eq (fun fuel => by unfold T148; simp only [bne_self_eq_false, cond_false]; rfl) ?_
 refine It.ev (c := fun fuel (_ : Unit) => c148_4 (arun p n) fuel a0_0 a0_0) (i := ()) (r := fun _ => some ⟨[⟨K4, (true, ())⟩], []⟩) ?_ rfl
 refine eq_loop a0_0.length (fun i => (i : Int)) (fun i hi fuel a rec => ?_) (fun fuel a rec => ?_)
 ·have f := eq20 a0_0[i].1 ((lsl hs).2 i a0_0[i] (at_lt hi)) n (by omega)
  show c148_4 (arun p n) fuel a0_0 a0_0 rec (i : Int) = _; unfold c148_4; simp only [dec_lt hi, dec_nn, Int.toNat_natCast, at_lt hi, Option.bind_some, cond_true, cond_false, bne_self_eq_false, Bool.not_true, call_step' f, wrap_succ (show i < 9223372036854775807 by omega)]
 ·show c148_4 (arun p n) fuel a0_0 a0_0 rec ((List.length a0_0 : Nat) : Int) = _; unfold c148_4; simp only [dec_end, cond_false]
theorem eq149 (a0_0 : List (Row K163)) (hs : LmR K70 (a0_0, ())) : Ran p 2 149 [.val false ⟨K70, (a0_0, ())⟩, .val false ⟨K70, (a0_0, ())⟩] ⟨[⟨K4, (true, ())⟩], []⟩ := go149 fun n hn => by
 have hl : List.length a0_0 ≤ 4611686018427387904 := (lsl hs).1
 refine Ev.eq (fun fuel => by unfold T149; simp only [bne_self_eq_false, cond_false]; rfl) ?_
 refine It.ev (c := fun fuel (_ : Unit) => c149_4 (arun p n) fuel a0_0 a0_0) (i := ()) (r := fun _ => some ⟨[⟨K4, (true, ())⟩], []⟩) ?_ rfl
 refine eq_loop a0_0.length (fun i => (i : Int)) (fun i hi fuel a rec => ?_) (fun fuel a rec => ?_)
 ·have f := eq194 a0_0[i] ((lsl hs).2 i a0_0[i] (at_lt hi)) n (by omega)
  show c149_4 (arun p n) fuel a0_0 a0_0 rec (i : Int) = _; unfold c149_4; simp only [dec_lt hi, dec_nn, Int.toNat_natCast, at_lt hi, Option.bind_some, cond_true, cond_false, bne_self_eq_false, Bool.not_true, call_step' f, wrap_succ (show i < 9223372036854775807 by omega)]
 ·show c149_4 (arun p n) fuel a0_0 a0_0 rec ((List.length a0_0 : Nat) : Int) = _; unfold c149_4; simp only [dec_end, cond_false]
theorem eq150 (a0_0 : List (Row K171)) (hs : LmR K71 (a0_0, ())) : Ran p 2 150 [.val false ⟨K71, (a0_0, ())⟩, .val false ⟨K71, (a0_0, ())⟩] ⟨[⟨K4, (true, ())⟩], []⟩ := go150 fun n hn => by
 have hl : List.length a0_0 ≤ 4611686018427387904 := (lsl hs).1
 refine Ev.eq (fun fuel => by unfold T150; simp only [bne_self_eq_false, cond_false]; rfl) ?_
 refine It.ev (c := fun fuel (_ : Unit) => c150_4 (arun p n) fuel a0_0 a0_0) (i := ()) (r := fun _ => some ⟨[⟨K4, (true, ())⟩], []⟩) ?_ rfl
 refine eq_loop a0_0.length (fun i => (i : Int)) (fun i hi fuel a rec => ?_) (fun fuel a rec => ?_)
 ·have f := eq195 a0_0[i] ((lsl hs).2 i a0_0[i] (at_lt hi)) n (by omega)
  show c150_4 (arun p n) fuel a0_0 a0_0 rec (i : Int) = _; unfold c150_4; simp only [dec_lt hi, dec_nn, Int.toNat_natCast, at_lt hi, Option.bind_some, cond_true, cond_false, bne_self_eq_false, Bool.not_true, call_step' f, wrap_succ (show i < 9223372036854775807 by omega)]
 ·show c150_4 (arun p n) fuel a0_0 a0_0 rec ((List.length a0_0 : Nat) : Int) = _; unfold c150_4; simp only [dec_end, cond_false]
theorem sz152 (a0 : Row K119) (left : Int) (hok : ROkay K119 a0) (h0 : 0 ≤ left) (h1 : left ≤ 1048576) : ∃ r : Int, Ran p 2 152 [.val true ⟨K119, a0⟩, .val false ⟨K3, (left, ())⟩] ⟨[⟨K3, (r, ())⟩], []⟩ ∧ (0 ≤ r → r + szR K119 a0 ≤ left ∧ Small K119 a0) := by
 obtain ⟨r0, f0, g0⟩ := sz154 (@vL K3 a0.1) left (rmk (rhd hok) trivial) (by omega) (by omega)
 by_cases n0 : r0 < 0
 ·exact ⟨-1, go152 fun n hn => Ev.now fun fuel => by unfold T152; exact (call_step (f0 n (by omega))).trans <| (bif_pos n0), by omega⟩
 have l0 := (g0 (by omega)).1
 replace l0 : r0 + (szT (.sl K3) a0.1 + 0) ≤ left := l0
 have z0 : 0 ≤ szR K43 ((@vL K3 a0.1), ()) := szR_nn _ _
 replace z0 : 0 ≤ (szT (.sl K3) a0.1 + 0) := z0
 have s0 := shd (g0 (by omega)).2
 exact ⟨r0, go152 fun n hn => Ev.now fun fuel => by unfold T152; exact (call_step (f0 n (by omega))).trans <| (bif_neg n0).trans <|  rfl, fun _ => ⟨by show _ + (szT (.sl K3) a0.1 + (0 + 0)) ≤ _; omega, (smk s0 (smk trivial trivial))⟩⟩
theorem sz155 (a0_0 : List (Row K43)) (left : Int) (hok : ROkay K69 (a0_0, ())) (h0 : 0 ≤ left) (h1 : left ≤ 1048576) : ∃ r : Int, Ran p 2 155 [.val false ⟨K69, (a0_0, ())⟩, .val false ⟨K3, (left, ())⟩] ⟨[⟨K3, (r, ())⟩], []⟩ ∧ (0 ≤ r → r + szR K69 (a0_0, ()) ≤ left ∧ Small K69 (a0_0, ())) := by
 have hl : ((List.length a0_0 : Nat) : Int) ≤ 9223372036854775807 := by have := (rsl hok).1; exact Int.ofNat_le.2 this
 have hw : IntKind.i64.wrap (left - ((List.length a0_0 : Nat) : Int)) = left - ((List.length a0_0 : Nat) : Int) := wrap64 (by omega) (by omega)
 by_cases hn : left - ((List.length a0_0 : Nat) : Int) < 0
 ·exact ⟨-1, go155 fun n hn' => Ev.now fun fuel => by unfold T155; rw [hw]; exact bif_pos hn, by omega⟩
 ·refine szl_factM (p := p) (lvl := 1) (xs := a0_0) (S := fun r => Small K43 (r.1, ())) (M := fun r => szR K43 (r.1, ())) (fun r => szR_nn _ _) (st := fun (i : Nat) (l : Int) => (l, (i : Int))) (W := fun n fuel => T155 (arun p n) fuel a0_0 left) (c := fun n fuel (_ : Unit) => c155_5 (arun p n) fuel a0_0) (l0 := left - ((List.length a0_0 : Nat) : Int)) (f := fun x l => [.val false ⟨K43, (x.1, ())⟩, .val false ⟨K3, (l, ())⟩]) (q := 154) (r0 := fun r => ⟨[⟨K3, (r, ())⟩], []⟩) ?_ ?_ ?_ ?_ (by omega) (by omega) (fun r hr hp => ⟨r, go155 fun n hn => hr n hn, fun h => ⟨by have := (hp h).1; show r + (((List.length a0_0 : Nat) : Int) + sumI (szR K43) a0_0 + 0) ≤ left; replace this : r + sumI (szR K43) a0_0 ≤ _ := this; omega, ssm (Int.ofNat_le.1 (by show _ ≤ (1048576 : Int); omega)) fun i r hr => ?_⟩⟩)
  ·intro i hi l h2 h3; obtain ⟨r, f, g⟩ := sz154 a0_0[i].1 l ((rsl hok).2 i a0_0[i] (at_lt hi)) h2 h3; exact ⟨r, g, fun n hn => f n (by omega)⟩
  ·intro n _ fuel; show T155 (arun p n) fuel a0_0 left = _; unfold T155; rw [hw]; exact bif_neg hn
  ·intro n fuel a rec i hi l r hr; replace hr : arun p n 154 [.val false ⟨K43, (a0_0[i].1, ())⟩, .val false ⟨K3, (l, ())⟩] = some ⟨[⟨K3, (r, ())⟩], []⟩ := hr; show c155_5 (arun p n) fuel a0_0 rec (l, (i : Int)) = _; unfold c155_5; simp only [dec_lt hi, dec_nn, Int.toNat_natCast, at_lt hi, Option.bind_some, cond_true, call_step' hr, wrap_succ (show i < 9223372036854775807 by omega)]
  ·intro n fuel a rec l; show c155_5 (arun p n) fuel a0_0 rec (l, ((List.length a0_0 : Nat) : Int)) = _; unfold c155_5; simp only [dec_end, cond_false]
  ·obtain ⟨hi, rfl⟩ := at_some hr; have := (hp h).2 i hi; exact smk (shd this) trivial
theorem to160 (a0 : Row K119) (hs : Small K119 a0) : Ran p 2 160 [.val true ⟨K119, a0⟩] ⟨[⟨K65, a0⟩], []⟩ := go160 fun n hn => Ev.now fun fuel => by
 unfold T160; exact (call_step (to29 (@vL K3 a0.1) (smk (shd hs) trivial) n (by omega))).trans <|  rfl
theorem to162 (a0_0 : List (Row K43)) (hs : Small K69 (a0_0, ())) : Ran p 2 162 [.val false ⟨K69, (a0_0, ())⟩] ⟨[⟨K69, (a0_0, ())⟩], []⟩ := go162 fun n hn => by
 have hl : List.length a0_0 ≤ 1048576 := (ssl hs).1
 refine Ev.eq (fun fuel => by unfold T162; exact bif_and3 (Int.natCast_nonneg _) (Int.ofNat_le.2 (Nat.le_trans hl (by decide))) rfl) ?_
 refine It.ev (c := fun fuel (_ : Unit) => c162_3 (arun p n) fuel a0_0) (i := ()) (r := fun _ => some ⟨[⟨K69, (a0_0, ())⟩], []⟩) ?_ rfl
 refine to_loop (α := Row K43) a0_0 (zeroRow K43) (fun i ys => ((i : Int), ys)) (fun i hi ys hy fuel a rec => ?_) (fun fuel a rec => ?_)
 ·have hy' : i < ys.length := by rw [hy]; exact hi
  have hi1 : i < List.length (α := Row K43) a0_0 := hi
  have hb : i < 9223372036854775807 := Nat.lt_of_lt_of_le hi (Nat.le_trans hl (by decide))
  have f := to29 a0_0[i].1 ((ssl hs).2 i a0_0[i] (at_lt hi)) n (by omega)
  show c162_3 (arun p n) fuel a0_0 rec ((i : Int), ys) = _; unfold c162_3; simp only [dec_lt hi1, dec_nn, Int.toNat_natCast, at_lt hi1, at_lt hy', Option.bind_some, cond_true, call_step' f, wrap_succ hb] <;> rfl
 ·show c162_3 (arun p n) fuel a0_0 rec (((List.length a0_0 : Nat) : Int), a0_0) = _; unfold c162_3; simp only [dec_end, cond_false] <;> rfl
theorem to163 (a0_0 : List (Row K206)) (hs : Small K123 (a0_0, ())) : Ran p 2 163 [.val false ⟨K123, (a0_0, ())⟩] ⟨[⟨K70, (a0_0, ())⟩], []⟩ := go163 fun n hn => by
 have hl : List.length a0_0 ≤ 1048576 := (ssl hs).1
 refine Ev.eq (fun fuel => by unfold T163; exact bif_and3 (Int.natCast_nonneg _) (Int.ofNat_le.2 (Nat.le_trans hl (by decide))) rfl) ?_
 refine It.ev (c := fun fuel (_ : Unit) => c163_3 (arun p n) fuel a0_0) (i := ()) (r := fun _ => some ⟨[⟨K70, (a0_0, ())⟩], []⟩) ?_ rfl
 refine to_loop (α := Row K163) a0_0 (zeroRow K163) (fun i ys => ((i : Int), ys)) (fun i hi ys hy fuel a rec => ?_) (fun fuel a rec => ?_)
 ·have hy' : i < ys.length := by rw [hy]; exact hi
  have hi1 : i < List.length (α := Row K206) a0_0 := hi
  have hb : i < 9223372036854775807 := Nat.lt_of_lt_of_le hi (Nat.le_trans hl (by decide))
  have f := to198 a0_0[i] ((ssl hs).2 i a0_0[i] (at_lt hi)) n (by omega)
  show c163_3 (arun p n) fuel a0_0 rec ((i : Int), ys) = _; unfold c163_3; simp only [dec_lt hi1, dec_nn, Int.toNat_natCast, at_lt hi1, at_lt hy', Option.bind_some, cond_true, call_step' f, wrap_succ hb] <;> rfl
 ·show c163_3 (arun p n) fuel a0_0 rec (((List.length a0_0 : Nat) : Int), a0_0) = _; unfold c163_3; simp only [dec_end, cond_false] <;> rfl
theorem to164 (a0_0 : List (Row K208)) (hs : Small K124 (a0_0, ())) : Ran p 2 164 [.val false ⟨K124, (a0_0, ())⟩] ⟨[⟨K71, (a0_0, ())⟩], []⟩ := go164 fun n hn => by
 have hl : List.length a0_0 ≤ 1048576 := (ssl hs).1
 refine Ev.eq (fun fuel => by unfold T164; exact bif_and3 (Int.natCast_nonneg _) (Int.ofNat_le.2 (Nat.le_trans hl (by decide))) rfl) ?_
 refine It.ev (c := fun fuel (_ : Unit) => c164_3 (arun p n) fuel a0_0) (i := ()) (r := fun _ => some ⟨[⟨K71, (a0_0, ())⟩], []⟩) ?_ rfl
 refine to_loop (α := Row K171) a0_0 (zeroRow K171) (fun i ys => ((i : Int), ys)) (fun i hi ys hy fuel a rec => ?_) (fun fuel a rec => ?_)
 ·have hy' : i < ys.length := by rw [hy]; exact hi
  have hi1 : i < List.length (α := Row K208) a0_0 := hi
  have hb : i < 9223372036854775807 := Nat.lt_of_lt_of_le hi (Nat.le_trans hl (by decide))
  have f := to199 a0_0[i] ((ssl hs).2 i a0_0[i] (at_lt hi)) n (by omega)
  show c164_3 (arun p n) fuel a0_0 rec ((i : Int), ys) = _; unfold c164_3; simp only [dec_lt hi1, dec_nn, Int.toNat_natCast, at_lt hi1, at_lt hy', Option.bind_some, cond_true, call_step' f, wrap_succ hb] <;> rfl
 ·show c164_3 (arun p n) fuel a0_0 rec (((List.length a0_0 : Nat) : Int), a0_0) = _; unfold c164_3; simp only [dec_end, cond_false] <;> rfl
theorem eq40 (a0_0 : List (Row K108)) (hs : LmR K23 (a0_0, ())) : Ran p 3 40 [.val false ⟨K23, (a0_0, ())⟩, .val false ⟨K23, (a0_0, ())⟩] ⟨[⟨K4, (true, ())⟩], []⟩ := go40 fun n hn => by
 have hl : List.length a0_0 ≤ 4611686018427387904 := (lsl hs).1
 refine Ev.eq (fun fuel => by unfold T40; simp only [bne_self_eq_false, cond_false]; rfl) ?_
 refine It.ev (c := fun fuel (_ : Unit) => c40_4 (arun p n) fuel a0_0 a0_0) (i := ()) (r := fun _ => some ⟨[⟨K4, (true, ())⟩], []⟩) ?_ rfl
 refine eq_loop a0_0.length (fun i => (i : Int)) (fun i hi fuel a rec => ?_) (fun fuel a rec => ?_)
 ·have f := eq84 a0_0[i] ((lsl hs).2 i a0_0[i] (at_lt hi)) n (by omega)
  show c40_4 (arun p n) fuel a0_0 a0_0 rec (i : Int) = _; unfold c40_4; simp only [dec_lt hi, dec_nn, Int.toNat_natCast, at_lt hi, Option.bind_some, cond_true, cond_false, bne_self_eq_false, Bool.not_true, call_step' f, wrap_succ (show i < 9223372036854775807 by omega)]
 ·show c40_4 (arun p n) fuel a0_0 a0_0 rec ((List.length a0_0 : Nat) : Int) = _; unfold c40_4; simp only [dec_end, cond_false]
theorem sz49 (a0_0 : List (Row K128)) (left : Int) (hok : ROkay K33 (a0_0, ())) (h0 : 0 ≤ left) (h1 : left ≤ 1048576) : ∃ r : Int, Ran p 3 49 [.val false ⟨K33, (a0_0, ())⟩, .val false ⟨K3, (left, ())⟩] ⟨[⟨K3, (r, ())⟩], []⟩ ∧ (0 ≤ r → r + szR K33 (a0_0, ()) ≤ left ∧ Small K33 (a0_0, ())) := by
 have hl : ((List.length a0_0 : Nat) : Int) ≤ 9223372036854775807 := by have := (rsl hok).1; exact Int.ofNat_le.2 this
 have hw : IntKind.i64.wrap (left - ((List.length a0_0 : Nat) : Int)) = left - ((List.length a0_0 : Nat) : Int) := wrap64 (by omega) (by omega)
 by_cases hn : left - ((List.length a0_0 : Nat) : Int) < 0
 ·exact ⟨-1, go49 fun n hn' => Ev.now fun fuel => by unfold T49; rw [hw]; exact bif_pos hn, by omega⟩
 ·refine szl_factM (p := p) (lvl := 2) (xs := a0_0) (S := fun r => Small K128 r) (M := fun r => szR K128 r) (fun r => szR_nn _ _) (st := fun (i : Nat) (l : Int) => (l, (i : Int))) (W := fun n fuel => T49 (arun p n) fuel a0_0 left) (c := fun n fuel (_ : Unit) => c49_5 (arun p n) fuel a0_0) (l0 := left - ((List.length a0_0 : Nat) : Int)) (f := fun x l => [.val true ⟨K128, x⟩, .val false ⟨K3, (l, ())⟩]) (q := 97) (r0 := fun r => ⟨[⟨K3, (r, ())⟩], []⟩) ?_ ?_ ?_ ?_ (by omega) (by omega) (fun r hr hp => ⟨r, go49 fun n hn => hr n hn, fun h => ⟨by have := (hp h).1; show r + (((List.length a0_0 : Nat) : Int) + sumI (szR K128) a0_0 + 0) ≤ left; replace this : r + sumI (szR K128) a0_0 ≤ _ := this; omega, ssm (Int.ofNat_le.1 (by show _ ≤ (1048576 : Int); omega)) fun i r hr => ?_⟩⟩)
  ·intro i hi l h2 h3; obtain ⟨r, f, g⟩ := sz97 a0_0[i] l ((rsl hok).2 i a0_0[i] (at_lt hi)) h2 h3; exact ⟨r, g, fun n hn => f n (by omega)⟩
  ·intro n _ fuel; show T49 (arun p n) fuel a0_0 left = _; unfold T49; rw [hw]; exact bif_neg hn
  ·intro n fuel a rec i hi l r hr; replace hr : arun p n 97 [.val true ⟨K128, a0_0[i]⟩, .val false ⟨K3, (l, ())⟩] = some ⟨[⟨K3, (r, ())⟩], []⟩ := hr; show c49_5 (arun p n) fuel a0_0 rec (l, (i : Int)) = _; unfold c49_5; simp only [dec_lt hi, dec_nn, Int.toNat_natCast, at_lt hi, Option.bind_some, cond_true, call_step' hr, wrap_succ (show i < 9223372036854775807 by omega)]
  ·intro n fuel a rec l; show c49_5 (arun p n) fuel a0_0 rec (l, ((List.length a0_0 : Nat) : Int)) = _; unfold c49_5; simp only [dec_end, cond_false]
  ·obtain ⟨hi, rfl⟩ := at_some hr; have := (hp h).2 i hi; exact this
theorem sz51 (a0_0 : List (Row K136)) (left : Int) (hok : ROkay K37 (a0_0, ())) (h0 : 0 ≤ left) (h1 : left ≤ 1048576) : ∃ r : Int, Ran p 3 51 [.val false ⟨K37, (a0_0, ())⟩, .val false ⟨K3, (left, ())⟩] ⟨[⟨K3, (r, ())⟩], []⟩ ∧ (0 ≤ r → r + szR K37 (a0_0, ()) ≤ left ∧ Small K37 (a0_0, ())) := by
 have hl : ((List.length a0_0 : Nat) : Int) ≤ 9223372036854775807 := by have := (rsl hok).1; exact Int.ofNat_le.2 this
 have hw : IntKind.i64.wrap (left - ((List.length a0_0 : Nat) : Int)) = left - ((List.length a0_0 : Nat) : Int) := wrap64 (by omega) (by omega)
 by_cases hn : left - ((List.length a0_0 : Nat) : Int) < 0
 ·exact ⟨-1, go51 fun n hn' => Ev.now fun fuel => by unfold T51; rw [hw]; exact bif_pos hn, by omega⟩
 ·refine szl_factM (p := p) (lvl := 2) (xs := a0_0) (S := fun r => Small K136 r) (M := fun r => szR K136 r) (fun r => szR_nn _ _) (st := fun (i : Nat) (l : Int) => (l, (i : Int))) (W := fun n fuel => T51 (arun p n) fuel a0_0 left) (c := fun n fuel (_ : Unit) => c51_5 (arun p n) fuel a0_0) (l0 := left - ((List.length a0_0 : Nat) : Int)) (f := fun x l => [.val true ⟨K136, x⟩, .val false ⟨K3, (l, ())⟩]) (q := 99) (r0 := fun r => ⟨[⟨K3, (r, ())⟩], []⟩) ?_ ?_ ?_ ?_ (by omega) (by omega) (fun r hr hp => ⟨r, go51 fun n hn => hr n hn, fun h => ⟨by have := (hp h).1; show r + (((List.length a0_0 : Nat) : Int) + sumI (szR K136) a0_0 + 0) ≤ left; replace this : r + sumI (szR K136) a0_0 ≤ _ := this; omega, ssm (Int.ofNat_le.1 (by show _ ≤ (1048576 : Int); omega)) fun i r hr => ?_⟩⟩)
  ·intro i hi l h2 h3; obtain ⟨r, f, g⟩ := sz99 a0_0[i] l ((rsl hok).2 i a0_0[i] (at_lt hi)) h2 h3; exact ⟨r, g, fun n hn => f n (by omega)⟩
  ·intro n _ fuel; show T51 (arun p n) fuel a0_0 left = _; unfold T51; rw [hw]; exact bif_neg hn
  ·intro n fuel a rec i hi l r hr; replace hr : arun p n 99 [.val true ⟨K136, a0_0[i]⟩, .val false ⟨K3, (l, ())⟩] = some ⟨[⟨K3, (r, ())⟩], []⟩ := hr; show c51_5 (arun p n) fuel a0_0 rec (l, (i : Int)) = _; unfold c51_5; simp only [dec_lt hi, dec_nn, Int.toNat_natCast, at_lt hi, Option.bind_some, cond_true, call_step' hr, wrap_succ (show i < 9223372036854775807 by omega)]
  ·intro n fuel a rec l; show c51_5 (arun p n) fuel a0_0 rec (l, ((List.length a0_0 : Nat) : Int)) = _; unfold c51_5; simp only [dec_end, cond_false]
  ·obtain ⟨hi, rfl⟩ := at_some hr; have := (hp h).2 i hi; exact this
theorem to56 (a0_0 : List (Row K128)) (hs : Small K33 (a0_0, ())) : Ran p 3 56 [.val false ⟨K33, (a0_0, ())⟩] ⟨[⟨K23, (a0_0, ())⟩], []⟩ := go56 fun n hn => by
 have hl : List.length a0_0 ≤ 1048576 := (ssl hs).1
 refine Ev.eq (fun fuel => by unfold T56; exact bif_and3 (Int.natCast_nonneg _) (Int.ofNat_le.2 (Nat.le_trans hl (by decide))) rfl) ?_
 refine It.ev (c := fun fuel (_ : Unit) => c56_3 (arun p n) fuel a0_0) (i := ()) (r := fun _ => some ⟨[⟨K23, (a0_0, ())⟩], []⟩) ?_ rfl
 refine to_loop (α := Row K108) a0_0 (zeroRow K108) (fun i ys => ((i : Int), ys)) (fun i hi ys hy fuel a rec => ?_) (fun fuel a rec => ?_)
 ·have hy' : i < ys.length := by rw [hy]; exact hi
  have hi1 : i < List.length (α := Row K128) a0_0 := hi
  have hb : i < 9223372036854775807 := Nat.lt_of_lt_of_le hi (Nat.le_trans hl (by decide))
  have f := to105 a0_0[i] ((ssl hs).2 i a0_0[i] (at_lt hi)) n (by omega)
  show c56_3 (arun p n) fuel a0_0 rec ((i : Int), ys) = _; unfold c56_3; simp only [dec_lt hi1, dec_nn, Int.toNat_natCast, at_lt hi1, at_lt hy', Option.bind_some, cond_true, call_step' f, wrap_succ hb] <;> rfl
 ·show c56_3 (arun p n) fuel a0_0 rec (((List.length a0_0 : Nat) : Int), a0_0) = _; unfold c56_3; simp only [dec_end, cond_false] <;> rfl
theorem to58 (a0_0 : List (Row K136)) (hs : Small K37 (a0_0, ())) : Ran p 3 58 [.val false ⟨K37, (a0_0, ())⟩] ⟨[⟨K46, (a0_0, ())⟩], []⟩ := go58 fun n hn => by
 have hl : List.length a0_0 ≤ 1048576 := (ssl hs).1
 refine Ev.eq (fun fuel => by unfold T58; exact bif_and3 (Int.natCast_nonneg _) (Int.ofNat_le.2 (Nat.le_trans hl (by decide))) rfl) ?_
 refine It.ev (c := fun fuel (_ : Unit) => c58_3 (arun p n) fuel a0_0) (i := ()) (r := fun _ => some ⟨[⟨K46, (a0_0, ())⟩], []⟩) ?_ rfl
 refine to_loop (α := Row K139) a0_0 (zeroRow K139) (fun i ys => ((i : Int), ys)) (fun i hi ys hy fuel a rec => ?_) (fun fuel a rec => ?_)
 ·have hy' : i < ys.length := by rw [hy]; exact hi
  have hi1 : i < List.length (α := Row K136) a0_0 := hi
  have hb : i < 9223372036854775807 := Nat.lt_of_lt_of_le hi (Nat.le_trans hl (by decide))
  have f := to107 a0_0[i] ((ssl hs).2 i a0_0[i] (at_lt hi)) n (by omega)
  show c58_3 (arun p n) fuel a0_0 rec ((i : Int), ys) = _; unfold c58_3; simp only [dec_lt hi1, dec_nn, Int.toNat_natCast, at_lt hi1, at_lt hy', Option.bind_some, cond_true, call_step' f, wrap_succ hb] <;> rfl
 ·show c58_3 (arun p n) fuel a0_0 rec (((List.length a0_0 : Nat) : Int), a0_0) = _; unfold c58_3; simp only [dec_end, cond_false] <;> rfl
theorem eq62 (a0_0 : List (Row K139)) (hs : LmR K46 (a0_0, ())) : Ran p 3 62 [.val false ⟨K46, (a0_0, ())⟩, .val false ⟨K46, (a0_0, ())⟩] ⟨[⟨K4, (true, ())⟩], []⟩ := go62 fun n hn => by
 have hl : List.length a0_0 ≤ 4611686018427387904 := (lsl hs).1
 refine Ev.eq (fun fuel => by unfold T62; simp only [bne_self_eq_false, cond_false]; rfl) ?_
 refine It.ev (c := fun fuel (_ : Unit) => c62_4 (arun p n) fuel a0_0 a0_0) (i := ()) (r := fun _ => some ⟨[⟨K4, (true, ())⟩], []⟩) ?_ rfl
 refine eq_loop a0_0.length (fun i => (i : Int)) (fun i hi fuel a rec => ?_) (fun fuel a rec => ?_)
 ·have f := eq114 a0_0[i] ((lsl hs).2 i a0_0[i] (at_lt hi)) n (by omega)
  show c62_4 (arun p n) fuel a0_0 a0_0 rec (i : Int) = _; unfold c62_4; simp only [dec_lt hi, dec_nn, Int.toNat_natCast, at_lt hi, Option.bind_some, cond_true, cond_false, bne_self_eq_false, Bool.not_true, call_step' f, wrap_succ (show i < 9223372036854775807 by omega)]
 ·show c62_4 (arun p n) fuel a0_0 a0_0 rec ((List.length a0_0 : Nat) : Int) = _; unfold c62_4; simp only [dec_end, cond_false]
theorem sz15 (a0 : Row K40) (left : Int) (hok : ROkay K40 a0) (h0 : 0 ≤ left) (h1 : left ≤ 1048576) : ∃ r : Int, Ran p 4 15 [.val true ⟨K40, a0⟩, .val false ⟨K3, (left, ())⟩] ⟨[⟨K3, (r, ())⟩], []⟩ ∧ (0 ≤ r → r + szR K40 a0 ≤ left ∧ Small K40 a0) := by
 obtain ⟨r0, f0, g0⟩ := sz51 (@vL K136 a0.1) left (rmk (rhd hok) trivial) (by omega) (by omega)
 by_cases n0 : r0 < 0
 ·exact ⟨-1, go15 fun n hn => Ev.now fun fuel => by unfold T15; exact (call_step (f0 n (by omega))).trans <| (bif_pos n0), by omega⟩
 have l0 := (g0 (by omega)).1
 replace l0 : r0 + (szT (.sl K136) a0.1 + 0) ≤ left := l0
 have z0 : 0 ≤ szR K37 ((@vL K136 a0.1), ()) := szR_nn _ _
 replace z0 : 0 ≤ (szT (.sl K136) a0.1 + 0) := z0
 have s0 := shd (g0 (by omega)).2
 obtain ⟨r1, f1, g1⟩ := sz52 (@vL K149 a0.2.1) r0 (rmk (rhd (rtl hok)) trivial) (by omega) (by omega)
 by_cases n1 : r1 < 0
 ·exact ⟨-1, go15 fun n hn => Ev.now fun fuel => by unfold T15; exact (call_step (f0 n (by omega))).trans <| (bif_neg n0).trans <| (call_step (f1 n (by omega))).trans <| (bif_pos n1), by omega⟩
 have l1 := (g1 (by omega)).1
 replace l1 : r1 + (szT (.sl K149) a0.2.1 + 0) ≤ r0 := l1
 have z1 : 0 ≤ szR K38 ((@vL K149 a0.2.1), ()) := szR_nn _ _
 replace z1 : 0 ≤ (szT (.sl K149) a0.2.1 + 0) := z1
 have s1 := shd (g1 (by omega)).2
 exact ⟨r1, go15 fun n hn => Ev.now fun fuel => by unfold T15; exact (call_step (f0 n (by omega))).trans <| (bif_neg n0).trans <| (call_step (f1 n (by omega))).trans <| (bif_neg n1).trans <|  rfl, fun _ => ⟨by show _ + (szT (.sl K136) a0.1 + (szT (.sl K149) a0.2.1 + 0)) ≤ _; omega, (smk s0 (smk s1 trivial))⟩⟩
theorem to18 (a0 : Row K40) (hs : Small K40 a0) : Ran p 4 18 [.val true ⟨K40, a0⟩] ⟨[⟨K49, a0⟩], []⟩ := go18 fun n hn => Ev.now fun fuel => by
 unfold T18; exact (call_step (to58 (@vL K136 a0.1) (smk (shd hs) trivial) n (by omega))).trans <| (call_step (to59 (@vL K149 a0.2.1) (smk (shd (stl hs)) trivial) n (by omega))).trans <|  rfl
theorem eq21 (a0 : Row K49) (hs : LmR K49 a0) : Ran p 4 21 [.val true ⟨K49, a0⟩, .val true ⟨K49, a0⟩] ⟨[⟨K4, (true, ())⟩], []⟩ := go21 fun n hn => Ev.now fun fuel => by
 have f0 := eq62 (@vL K139 a0.1) (lmk (lhd hs) trivial) n (by omega)
 have f1 := eq63 (@vL K143 a0.2.1) (lmk (lhd (ltl hs)) trivial) n (by omega)
 unfold T21; simp only [call_step' f0, call_step' f1, bne_self_eq_false, beq_self_eq_true, beqB_self, Bool.not_true, cond_false, cond_true]
theorem eq85 (a0 : Row K90) (hs : LmR K90 a0) : Ran p 5 85 [.val true ⟨K90, a0⟩, .val true ⟨K90, a0⟩] ⟨[⟨K4, (true, ())⟩], []⟩ := go85 fun n hn => Ev.now fun fuel => by
 have f0 := eq21 a0.2 (ltl hs) n (by omega)
 unfold T85; simp only [call_step' f0, bne_self_eq_false, beq_self_eq_true, beqB_self, Bool.not_true, cond_false, cond_true]
theorem sz98 (a0 : Row K131) (left : Int) (hok : ROkay K131 a0) (h0 : 0 ≤ left) (h1 : left ≤ 1048576) : ∃ r : Int, Ran p 5 98 [.val true ⟨K131, a0⟩, .val false ⟨K3, (left, ())⟩] ⟨[⟨K3, (r, ())⟩], []⟩ ∧ (0 ≤ r → r + szR K131 a0 ≤ left ∧ Small K131 a0) := by
 obtain ⟨r0, f0, g0⟩ := sz15 a0.2 left (rtl hok) (by omega) (by omega)
 by_cases n0 : r0 < 0
 ·exact ⟨-1, go98 fun n hn => Ev.now fun fuel => by unfold T98; exact (call_step (f0 n (by omega))).trans <| (bif_pos n0), by omega⟩
 have l0 := (g0 (by omega)).1
 replace l0 : r0 + (szT (.sl K136) a0.2.1 + (szT (.sl K149) a0.2.2.1 + 0)) ≤ left := l0
 have z0 : 0 ≤ szR K40 a0.2 := szR_nn _ _
 replace z0 : 0 ≤ (szT (.sl K136) a0.2.1 + (szT (.sl K149) a0.2.2.1 + 0)) := z0
 have s1 := shd (g0 (by omega)).2
 have s2 := shd (stl (g0 (by omega)).2)
 exact ⟨r0, go98 fun n hn => Ev.now fun fuel => by unfold T98; exact (call_step (f0 n (by omega))).trans <| (bif_neg n0).trans <|  rfl, fun _ => ⟨by show _ + (0 + (szT (.sl K136) a0.2.1 + (szT (.sl K149) a0.2.2.1 + 0))) ≤ _; omega, (smk trivial (smk s1 (smk s2 trivial)))⟩⟩
theorem to106 (a0 : Row K131) (hs : Small K131 a0) : Ran p 5 106 [.val true ⟨K131, a0⟩] ⟨[⟨K90, a0⟩], []⟩ := go106 fun n hn => Ev.now fun fuel => by
 unfold T106; exact (call_step (to18 a0.2 (stl hs) n (by omega))).trans <|  rfl
theorem eq193 (a0_0 : List (Row K49)) (hs : LmR K66 (a0_0, ())) : Ran p 5 193 [.val false ⟨K66, (a0_0, ())⟩, .val false ⟨K66, (a0_0, ())⟩] ⟨[⟨K4, (true, ())⟩], []⟩ := go193 fun n hn => by
 have hl : List.length a0_0 ≤ 4611686018427387904 := (lsl hs).1
 refine Ev.eq (fun fuel => by unfold T193; simp only [bne_self_eq_false, cond_false]; rfl) ?_
 refine It.ev (c := fun fuel (_ : Unit) => c193_4 (arun p n) fuel a0_0 a0_0) (i := ()) (r := fun _ => some ⟨[⟨K4, (true, ())⟩], []⟩) ?_ rfl
 refine eq_loop a0_0.length (fun i => (i : Int)) (fun i hi fuel a rec => ?_) (fun fuel a rec => ?_)
 ·have f := eq21 a0_0[i] ((lsl hs).2 i a0_0[i] (at_lt hi)) n (by omega)
  show c193_4 (arun p n) fuel a0_0 a0_0 rec (i : Int) = _; unfold c193_4; simp only [dec_lt hi, dec_nn, Int.toNat_natCast, at_lt hi, Option.bind_some, cond_true, cond_false, bne_self_eq_false, Bool.not_true, call_step' f, wrap_succ (show i < 9223372036854775807 by omega)]
 ·show c193_4 (arun p n) fuel a0_0 a0_0 rec ((List.length a0_0 : Nat) : Int) = _; unfold c193_4; simp only [dec_end, cond_false]
theorem sz196 (a0_0 : List (Row K40)) (left : Int) (hok : ROkay K120 (a0_0, ())) (h0 : 0 ≤ left) (h1 : left ≤ 1048576) : ∃ r : Int, Ran p 5 196 [.val false ⟨K120, (a0_0, ())⟩, .val false ⟨K3, (left, ())⟩] ⟨[⟨K3, (r, ())⟩], []⟩ ∧ (0 ≤ r → r + szR K120 (a0_0, ()) ≤ left ∧ Small K120 (a0_0, ())) := by
 have hl : ((List.length a0_0 : Nat) : Int) ≤ 9223372036854775807 := by have := (rsl hok).1; exact Int.ofNat_le.2 this
 have hw : IntKind.i64.wrap (left - ((List.length a0_0 : Nat) : Int)) = left - ((List.length a0_0 : Nat) : Int) := wrap64 (by omega) (by omega)
 by_cases hn : left - ((List.length a0_0 : Nat) : Int) < 0
 ·exact ⟨-1, go196 fun n hn' => Ev.now fun fuel => by unfold T196; rw [hw]; exact bif_pos hn, by omega⟩
 ·refine szl_factM (p := p) (lvl := 4) (xs := a0_0) (S := fun r => Small K40 r) (M := fun r => szR K40 r) (fun r => szR_nn _ _) (st := fun (i : Nat) (l : Int) => (l, (i : Int))) (W := fun n fuel => T196 (arun p n) fuel a0_0 left) (c := fun n fuel (_ : Unit) => c196_5 (arun p n) fuel a0_0) (l0 := left - ((List.length a0_0 : Nat) : Int)) (f := fun x l => [.val true ⟨K40, x⟩, .val false ⟨K3, (l, ())⟩]) (q := 15) (r0 := fun r => ⟨[⟨K3, (r, ())⟩], []⟩) ?_ ?_ ?_ ?_ (by omega) (by omega) (fun r hr hp => ⟨r, go196 fun n hn => hr n hn, fun h => ⟨by have := (hp h).1; show r + (((List.length a0_0 : Nat) : Int) + sumI (szR K40) a0_0 + 0) ≤ left; replace this : r + sumI (szR K40) a0_0 ≤ _ := this; omega, ssm (Int.ofNat_le.1 (by show _ ≤ (1048576 : Int); omega)) fun i r hr => ?_⟩⟩)
  ·intro i hi l h2 h3; obtain ⟨r, f, g⟩ := sz15 a0_0[i] l ((rsl hok).2 i a0_0[i] (at_lt hi)) h2 h3; exact ⟨r, g, fun n hn => f n (by omega)⟩
  ·intro n _ fuel; show T196 (arun p n) fuel a0_0 left = _; unfold T196; rw [hw]; exact bif_neg hn
  ·intro n fuel a rec i hi l r hr; replace hr : arun p n 15 [.val true ⟨K40, a0_0[i]⟩, .val false ⟨K3, (l, ())⟩] = some ⟨[⟨K3, (r, ())⟩], []⟩ := hr; show c196_5 (arun p n) fuel a0_0 rec (l, (i : Int)) = _; unfold c196_5; simp only [dec_lt hi, dec_nn, Int.toNat_natCast, at_lt hi, Option.bind_some, cond_true, call_step' hr, wrap_succ (show i < 9223372036854775807 by omega)]
  ·intro n fuel a rec l; show c196_5 (arun p n) fuel a0_0 rec (l, ((List.length a0_0 : Nat) : Int)) = _; unfold c196_5; simp only [dec_end, cond_false]
  ·obtain ⟨hi, rfl⟩ := at_some hr; have := (hp h).2 i hi; exact this
theorem to197 (a0_0 : List (Row K40)) (hs : Small K120 (a0_0, ())) : Ran p 5 197 [.val false ⟨K120, (a0_0, ())⟩] ⟨[⟨K66, (a0_0, ())⟩], []⟩ := go197 fun n hn => by
 have hl : List.length a0_0 ≤ 1048576 := (ssl hs).1
 refine Ev.eq (fun fuel => by unfold T197; exact bif_and3 (Int.natCast_nonneg _) (Int.ofNat_le.2 (Nat.le_trans hl (by decide))) rfl) ?_
 refine It.ev (c := fun fuel (_ : Unit) => c197_3 (arun p n) fuel a0_0) (i := ()) (r := fun _ => some ⟨[⟨K66, (a0_0, ())⟩], []⟩) ?_ rfl
 refine to_loop (α := Row K49) a0_0 (zeroRow K49) (fun i ys => ((i : Int), ys)) (fun i hi ys hy fuel a rec => ?_) (fun fuel a rec => ?_)
 ·have hy' : i < ys.length := by rw [hy]; exact hi
  have hi1 : i < List.length (α := Row K40) a0_0 := hi
  have hb : i < 9223372036854775807 := Nat.lt_of_lt_of_le hi (Nat.le_trans hl (by decide))
  have f := to18 a0_0[i] ((ssl hs).2 i a0_0[i] (at_lt hi)) n (by omega)
  show c197_3 (arun p n) fuel a0_0 rec ((i : Int), ys) = _; unfold c197_3; simp only [dec_lt hi1, dec_nn, Int.toNat_natCast, at_lt hi1, at_lt hy', Option.bind_some, cond_true, call_step' f, wrap_succ hb] <;> rfl
 ·show c197_3 (arun p n) fuel a0_0 rec (((List.length a0_0 : Nat) : Int), a0_0) = _; unfold c197_3; simp only [dec_end, cond_false] <;> rfl
theorem eq41 (a0_0 : List (Row K90)) (hs : LmR K24 (a0_0, ())) : Ran p 6 41 [.val false ⟨K24, (a0_0, ())⟩, .val false ⟨K24, (a0_0, ())⟩] ⟨[⟨K4, (true, ())⟩], []⟩ := go41 fun n hn => by
 have hl : List.length a0_0 ≤ 4611686018427387904 := (lsl hs).1
 refine Ev.eq (fun fuel => by unfold T41; simp only [bne_self_eq_false, cond_false]; rfl) ?_
 refine It.ev (c := fun fuel (_ : Unit) => c41_4 (arun p n) fuel a0_0 a0_0) (i := ()) (r := fun _ => some ⟨[⟨K4, (true, ())⟩], []⟩) ?_ rfl
 refine eq_loop a0_0.length (fun i => (i : Int)) (fun i hi fuel a rec => ?_) (fun fuel a rec => ?_)
 ·have f := eq85 a0_0[i] ((lsl hs).2 i a0_0[i] (at_lt hi)) n (by omega)
  show c41_4 (arun p n) fuel a0_0 a0_0 rec (i : Int) = _; unfold c41_4; simp only [dec_lt hi, dec_nn, Int.toNat_natCast, at_lt hi, Option.bind_some, cond_true, cond_false, bne_self_eq_false, Bool.not_true, call_step' f, wrap_succ (show i < 9223372036854775807 by omega)]
 ·show c41_4 (arun p n) fuel a0_0 a0_0 rec ((List.length a0_0 : Nat) : Int) = _; unfold c41_4; simp only [dec_end, cond_false]
theorem sz50 (a0_0 : List (Row K131)) (left : Int) (hok : ROkay K34 (a0_0, ())) (h0 : 0 ≤ left) (h1 : left ≤ 1048576) : ∃ r : Int, Ran p 6 50 [.val false ⟨K34, (a0_0, ())⟩, .val false ⟨K3, (left, ())⟩] ⟨[⟨K3, (r, ())⟩], []⟩ ∧ (0 ≤ r → r + szR K34 (a0_0, ()) ≤ left ∧ Small K34 (a0_0, ())) := by
 have hl : ((List.length a0_0 : Nat) : Int) ≤ 9223372036854775807 := by have := (rsl hok).1; exact Int.ofNat_le.2 this
 have hw : IntKind.i64.wrap (left - ((List.length a0_0 : Nat) : Int)) = left - ((List.length a0_0 : Nat) : Int) := wrap64 (by omega) (by omega)
 by_cases hn : left - ((List.length a0_0 : Nat) : Int) < 0
 ·exact ⟨-1, go50 fun n hn' => Ev.now fun fuel => by unfold T50; rw [hw]; exact bif_pos hn, by omega⟩
 ·refine szl_factM (p := p) (lvl := 5) (xs := a0_0) (S := fun r => Small K131 r) (M := fun r => szR K131 r) (fun r => szR_nn _ _) (st := fun (i : Nat) (l : Int) => (l, (i : Int))) (W := fun n fuel => T50 (arun p n) fuel a0_0 left) (c := fun n fuel (_ : Unit) => c50_5 (arun p n) fuel a0_0) (l0 := left - ((List.length a0_0 : Nat) : Int)) (f := fun x l => [.val true ⟨K131, x⟩, .val false ⟨K3, (l, ())⟩]) (q := 98) (r0 := fun r => ⟨[⟨K3, (r, ())⟩], []⟩) ?_ ?_ ?_ ?_ (by omega) (by omega) (fun r hr hp => ⟨r, go50 fun n hn => hr n hn, fun h => ⟨by have := (hp h).1; show r + (((List.length a0_0 : Nat) : Int) + sumI (szR K131) a0_0 + 0) ≤ left; replace this : r + sumI (szR K131) a0_0 ≤ _ := this; omega, ssm (Int.ofNat_le.1 (by show _ ≤ (1048576 : Int); omega)) fun i r hr => ?_⟩⟩)
  ·intro i hi l h2 h3; obtain ⟨r, f, g⟩ := sz98 a0_0[i] l ((rsl hok).2 i a0_0[i] (at_lt hi)) h2 h3; exact ⟨r, g, fun n hn => f n (by omega)⟩
  ·intro n _ fuel; show T50 (arun p n) fuel a0_0 left = _; unfold T50; rw [hw]; exact bif_neg hn
  ·intro n fuel a rec i hi l r hr; replace hr : arun p n 98 [.val true ⟨K131, a0_0[i]⟩, .val false ⟨K3, (l, ())⟩] = some ⟨[⟨K3, (r, ())⟩], []⟩ := hr; show c50_5 (arun p n) fuel a0_0 rec (l, (i : Int)) = _; unfold c50_5; simp only [dec_lt hi, dec_nn, Int.toNat_natCast, at_lt hi, Option.bind_some, cond_true, call_step' hr, wrap_succ (show i < 9223372036854775807 by omega)]
  ·intro n fuel a rec l; show c50_5 (arun p n) fuel a0_0 rec (l, ((List.length a0_0 : Nat) : Int)) = _; unfold c50_5; simp only [dec_end, cond_false]
  ·obtain ⟨hi, rfl⟩ := at_some hr; have := (hp h).2 i hi; exact this
theorem to57 (a0_0 : List (Row K131)) (hs : Small K34 (a0_0, ())) : Ran p 6 57 [.val false ⟨K34, (a0_0, ())⟩] ⟨[⟨K24, (a0_0, ())⟩], []⟩ := go57 fun n hn => by
 have hl : List.length a0_0 ≤ 1048576 := (ssl hs).1
 refine Ev.eq (fun fuel => by unfold T57; exact bif_and3 (Int.natCast_nonneg _) (Int.ofNat_le.2 (Nat.le_trans hl (by decide))) rfl) ?_
 refine It.ev (c := fun fuel (_ : Unit) => c57_3 (arun p n) fuel a0_0) (i := ()) (r := fun _ => some ⟨[⟨K24, (a0_0, ())⟩], []⟩) ?_ rfl
 refine to_loop (α := Row K90) a0_0 (zeroRow K90) (fun i ys => ((i : Int), ys)) (fun i hi ys hy fuel a rec => ?_) (fun fuel a rec => ?_)
 ·have hy' : i < ys.length := by rw [hy]; exact hi
  have hi1 : i < List.length (α := Row K131) a0_0 := hi
  have hb : i < 9223372036854775807 := Nat.lt_of_lt_of_le hi (Nat.le_trans hl (by decide))
  have f := to106 a0_0[i] ((ssl hs).2 i a0_0[i] (at_lt hi)) n (by omega)
  show c57_3 (arun p n) fuel a0_0 rec ((i : Int), ys) = _; unfold c57_3; simp only [dec_lt hi1, dec_nn, Int.toNat_natCast, at_lt hi1, at_lt hy', Option.bind_some, cond_true, call_step' f, wrap_succ hb] <;> rfl
 ·show c57_3 (arun p n) fuel a0_0 rec (((List.length a0_0 : Nat) : Int), a0_0) = _; unfold c57_3; simp only [dec_end, cond_false] <;> rfl
theorem eq147 (a0 : Row K68) (hs : LmR K68 a0) : Ran p 6 147 [.val true ⟨K68, a0⟩, .val true ⟨K68, a0⟩] ⟨[⟨K4, (true, ())⟩], []⟩ := go147 fun n hn => Ev.now fun fuel => by
 have f0 := eq193 (@vL K49 a0.2.2.1) (lmk (lhd (ltl (ltl hs))) trivial) n (by omega)
 unfold T147; simp only [call_step' f0, bne_self_eq_false, beq_self_eq_true, beqB_self, Bool.not_true, cond_false, cond_true]
theorem sz153 (a0 : Row K122) (left : Int) (hok : ROkay K122 a0) (h0 : 0 ≤ left) (h1 : left ≤ 1048576) : ∃ r : Int, Ran p 6 153 [.val true ⟨K122, a0⟩, .val false ⟨K3, (left, ())⟩] ⟨[⟨K3, (r, ())⟩], []⟩ ∧ (0 ≤ r → r + szR K122 a0 ≤ left ∧ Small K122 a0) := by
 obtain ⟨r0, f0, g0⟩ := sz196 (@vL K40 a0.2.2.1) left (rmk (rhd (rtl (rtl hok))) trivial) (by omega) (by omega)
 by_cases n0 : r0 < 0
 ·exact ⟨-1, go153 fun n hn => Ev.now fun fuel => by unfold T153; exact (call_step (f0 n (by omega))).trans <| (bif_pos n0), by omega⟩
 have l0 := (g0 (by omega)).1
 replace l0 : r0 + (szT (.sl K40) a0.2.2.1 + 0) ≤ left := l0
 have z0 : 0 ≤ szR K120 ((@vL K40 a0.2.2.1), ()) := szR_nn _ _
 replace z0 : 0 ≤ (szT (.sl K40) a0.2.2.1 + 0) := z0
 have s2 := shd (g0 (by omega)).2
 exact ⟨r0, go153 fun n hn => Ev.now fun fuel => by unfold T153; exact (call_step (f0 n (by omega))).trans <| (bif_neg n0).trans <|  rfl, fun _ => ⟨by show _ + (0 + (0 + (szT (.sl K40) a0.2.2.1 + 0))) ≤ _; omega, (smk trivial (smk trivial (smk s2 trivial)))⟩⟩
theorem to161 (a0 : Row K122) (hs : Small K122 a0) : Ran p 6 161 [.val true ⟨K122, a0⟩] ⟨[⟨K68, a0⟩], []⟩ := go161 fun n hn => Ev.now fun fuel => by
 unfold T161; exact (call_step (to197 (@vL K40 a0.2.2.1) (smk (shd (stl (stl hs))) trivial) n (by omega))).trans <|  rfl
theorem eq83 (a0 : Row K73) (hs : LmR K73 a0) : Ran p 7 83 [.val true ⟨K73, a0⟩, .val true ⟨K73, a0⟩] ⟨[⟨K4, (true, ())⟩], []⟩ := go83 fun n hn => Ev.now fun fuel => by
 have f0 := eq21 ((@vL K139 a0.2.2.1), (@vL K143 a0.2.2.2.1), ()) (lmk (lhd (ltl (ltl hs))) (lmk (lhd (ltl (ltl (ltl hs)))) trivial)) n (by omega)
 have f1 := eq146 ((@vL K3 a0.2.2.2.2.1), (vI a0.2.2.2.2.2.1), ()) (lmk (lhd (ltl (ltl (ltl (ltl hs))))) (lmk (lhd (ltl (ltl (ltl (ltl (ltl hs)))))) trivial)) n (by omega)
 have f2 := eq147 ((vI a0.2.2.2.2.2.2.1), (vI a0.2.2.2.2.2.2.2.1), (@vL K49 a0.2.2.2.2.2.2.2.2.1), ()) (lmk (lhd (ltl (ltl (ltl (ltl (ltl (ltl hs))))))) (lmk (lhd (ltl (ltl (ltl (ltl (ltl (ltl (ltl hs)))))))) (lmk (lhd (ltl (ltl (ltl (ltl (ltl (ltl (ltl (ltl hs))))))))) trivial))) n (by omega)
 have f3 := eq20 (@vL K3 a0.2.2.2.2.2.2.2.2.2.1) (lmk (lhd (ltl (ltl (ltl (ltl (ltl (ltl (ltl (ltl (ltl hs)))))))))) trivial) n (by omega)
 have f4 := eq20 (@vL K3 a0.2.2.2.2.2.2.2.2.2.2.1) (lmk (lhd (ltl (ltl (ltl (ltl (ltl (ltl (ltl (ltl (ltl (ltl hs))))))))))) trivial) n (by omega)
 have f5 := eq148 (@vL K43 a0.2.2.2.2.2.2.2.2.2.2.2.1) (lmk (lhd (ltl (ltl (ltl (ltl (ltl (ltl (ltl (ltl (ltl (ltl (ltl hs)))))))))))) trivial) n (by omega)
 have f6 := eq149 (@vL K163 a0.2.2.2.2.2.2.2.2.2.2.2.2.2.2.1) (lmk (lhd (ltl (ltl (ltl (ltl (ltl (ltl (ltl (ltl (ltl (ltl (ltl (ltl (ltl (ltl hs))))))))))))))) trivial) n (by omega)
 have f7 := eq150 (@vL K171 a0.2.2.2.2.2.2.2.2.2.2.2.2.2.2.2.2.2.2.1) (lmk (lhd (ltl (ltl (ltl (ltl (ltl (ltl (ltl (ltl (ltl (ltl (ltl (ltl (ltl (ltl (ltl (ltl (ltl (ltl hs))))))))))))))))))) trivial) n (by omega)
 unfold T83; simp only [call_step' f0, call_step' f1, call_step' f2, call_step' f3, call_step' f4, call_step' f5, call_step' f6, call_step' f7, bne_self_eq_false, beq_self_eq_true, beqB_self, Bool.not_true, cond_false, cond_true]
theorem sz96 (a0 : Row K126) (left : Int) (hok : ROkay K126 a0) (h0 : 0 ≤ left) (h1 : left ≤ 1048576) : ∃ r : Int, Ran p 7 96 [.val true ⟨K126, a0⟩, .val false ⟨K3, (left, ())⟩] ⟨[⟨K3, (r, ())⟩], []⟩ ∧ (0 ≤ r → r + szR K126 a0 ≤ left ∧ Small K126 a0) := by
 obtain ⟨r0, f0, g0⟩ := sz15 ((@vL K136 a0.2.2.1), (@vL K149 a0.2.2.2.1), ()) left (rmk (rhd (rtl (rtl hok))) (rmk (rhd (rtl (rtl (rtl hok)))) trivial)) (by omega) (by omega)
 by_cases n0 : r0 < 0
 ·exact ⟨-1, go96 fun n hn => Ev.now fun fuel => by unfold T96; exact (call_step (f0 n (by omega))).trans <| (bif_pos n0), by omega⟩
 have l0 := (g0 (by omega)).1
 replace l0 : r0 + (szT (.sl K136) a0.2.2.1 + (szT (.sl K149) a0.2.2.2.1 + 0)) ≤ left := l0
 have z0 : 0 ≤ szR K40 ((@vL K136 a0.2.2.1), (@vL K149 a0.2.2.2.1), ()) := szR_nn _ _
 replace z0 : 0 ≤ (szT (.sl K136) a0.2.2.1 + (szT (.sl K149) a0.2.2.2.1 + 0)) := z0
 have s2 := shd (g0 (by omega)).2
 have s3 := shd (stl (g0 (by omega)).2)
 obtain ⟨r1, f1, g1⟩ := sz152 ((@vL K3 a0.2.2.2.2.1), (vI a0.2.2.2.2.2.1), ()) r0 (rmk (rhd (rtl (rtl (rtl (rtl hok))))) (rmk (rhd (rtl (rtl (rtl (rtl (rtl hok)))))) trivial)) (by omega) (by omega)
 by_cases n1 : r1 < 0
 ·exact ⟨-1, go96 fun n hn => Ev.now fun fuel => by unfold T96; exact (call_step (f0 n (by omega))).trans <| (bif_neg n0).trans <| (call_step (f1 n (by omega))).trans <| (bif_pos n1), by omega⟩
 have l1 := (g1 (by omega)).1
 replace l1 : r1 + (szT (.sl K3) a0.2.2.2.2.1 + (0 + 0)) ≤ r0 := l1
 have z1 : 0 ≤ szR K119 ((@vL K3 a0.2.2.2.2.1), (vI a0.2.2.2.2.2.1), ()) := szR_nn _ _
 replace z1 : 0 ≤ (szT (.sl K3) a0.2.2.2.2.1 + (0 + 0)) := z1
 have s4 := shd (g1 (by omega)).2
 have s5 := shd (stl (g1 (by omega)).2)
 obtain ⟨r2, f2, g2⟩ := sz153 ((vI a0.2.2.2.2.2.2.1), (vI a0.2.2.2.2.2.2.2.1), (@vL K40 a0.2.2.2.2.2.2.2.2.1), ()) r1 (rmk (rhd (rtl (rtl (rtl (rtl (rtl (rtl hok))))))) (rmk (rhd (rtl (rtl (rtl (rtl (rtl (rtl (rtl hok)))))))) (rmk (rhd (rtl (rtl (rtl (rtl (rtl (rtl (rtl (rtl hok))))))))) trivial))) (by omega) (by omega)
 by_cases n2 : r2 < 0
 ·exact ⟨-1, go96 fun n hn => Ev.now fun fuel => by unfold T96; exact (call_step (f0 n (by omega))).trans <| (bif_neg n0).trans <| (call_step (f1 n (by omega))).trans <| (bif_neg n1).trans <| (call_step (f2 n (by omega))).trans <| (bif_pos n2), by omega⟩
 have l2 := (g2 (by omega)).1
 replace l2 : r2 + (0 + (0 + (szT (.sl K40) a0.2.2.2.2.2.2.2.2.1 + 0))) ≤ r1 := l2
 have z2 : 0 ≤ szR K122 ((vI a0.2.2.2.2.2.2.1), (vI a0.2.2.2.2.2.2.2.1), (@vL K40 a0.2.2.2.2.2.2.2.2.1), ()) := szR_nn _ _
 replace z2 : 0 ≤ (0 + (0 + (szT (.sl K40) a0.2.2.2.2.2.2.2.2.1 + 0))) := z2
 have s6 := shd (g2 (by omega)).2
 have s7 := shd (stl (g2 (by omega)).2)
 have s8 := shd (stl (stl (g2 (by omega)).2))
 obtain ⟨r3, f3, g3⟩ := sz154 (@vL K3 a0.2.2.2.2.2.2.2.2.2.1) r2 (rmk (rhd (rtl (rtl (rtl (rtl (rtl (rtl (rtl (rtl (rtl hok)))))))))) trivial) (by omega) (by omega)
 by_cases n3 : r3 < 0
 ·exact ⟨-1, go96 fun n hn => Ev.now fun fuel => by unfold T96; exact (call_step (f0 n (by omega))).trans <| (bif_neg n0).trans <| (call_step (f1 n (by omega))).trans <| (bif_neg n1).trans <| (call_step (f2 n (by omega))).trans <| (bif_neg n2).trans <| (call_step (f3 n (by omega))).trans <| (bif_pos n3), by omega⟩
 have l3 := (g3 (by omega)).1
 replace l3 : r3 + (szT (.sl K3) a0.2.2.2.2.2.2.2.2.2.1 + 0) ≤ r2 := l3
 have z3 : 0 ≤ szR K43 ((@vL K3 a0.2.2.2.2.2.2.2.2.2.1), ()) := szR_nn _ _
 replace z3 : 0 ≤ (szT (.sl K3) a0.2.2.2.2.2.2.2.2.2.1 + 0) := z3
 have s9 := shd (g3 (by omega)).2
 obtain ⟨r4, f4, g4⟩ := sz154 (@vL K3 a0.2.2.2.2.2.2.2.2.2.2.1) r3 (rmk (rhd (rtl (rtl (rtl (rtl (rtl (rtl (rtl (rtl (rtl (rtl hok))))))))))) trivial) (by omega) (by omega)
 by_cases n4 : r4 < 0
 ·exact ⟨-1, go96 fun n hn => Ev.now fun fuel => by unfold T96; exact (call_step (f0 n (by omega))).trans <| (bif_neg n0).trans <| (call_step (f1 n (by omega))).trans <| (bif_neg n1).trans <| (call_step (f2 n (by omega))).trans <| (bif_neg n2).trans <| (call_step (f3 n (by omega))).trans <| (bif_neg n3).trans <| (call_step (f4 n (by omega))).trans <| (bif_pos n4), by omega⟩
 have l4 := (g4 (by omega)).1
 replace l4 : r4 + (szT (.sl K3) a0.2.2.2.2.2.2.2.2.2.2.1 + 0) ≤ r3 := l4
 have z4 : 0 ≤ szR K43 ((@vL K3 a0.2.2.2.2.2.2.2.2.2.2.1), ()) := szR_nn _ _
 replace z4 : 0 ≤ (szT (.sl K3) a0.2.2.2.2.2.2.2.2.2.2.1 + 0) := z4
 have s10 := shd (g4 (by omega)).2
 obtain ⟨r5, f5, g5⟩ := sz155 (@vL K43 a0.2.2.2.2.2.2.2.2.2.2.2.1) r4 (rmk (rhd (rtl (rtl (rtl (rtl (rtl (rtl (rtl (rtl (rtl (rtl (rtl hok)))))))))))) trivial) (by omega) (by omega)
 by_cases n5 : r5 < 0
 ·exact ⟨-1, go96 fun n hn => Ev.now fun fuel => by unfold T96; exact (call_step (f0 n (by omega))).trans <| (bif_neg n0).trans <| (call_step (f1 n (by omega))).trans <| (bif_neg n1).trans <| (call_step (f2 n (by omega))).trans <| (bif_neg n2).trans <| (call_step (f3 n (by omega))).trans <| (bif_neg n3).trans <| (call_step (f4 n (by omega))).trans <| (bif_neg n4).trans <| (call_step (f5 n (by omega))).trans <| (bif_pos n5), by omega⟩
 have l5 := (g5 (by omega)).1
 replace l5 : r5 + (szT (.sl K43) a0.2.2.2.2.2.2.2.2.2.2.2.1 + 0) ≤ r4 := l5
 have z5 : 0 ≤ szR K69 ((@vL K43 a0.2.2.2.2.2.2.2.2.2.2.2.1), ()) := szR_nn _ _
 replace z5 : 0 ≤ (szT (.sl K43) a0.2.2.2.2.2.2.2.2.2.2.2.1 + 0) := z5
 have s11 := shd (g5 (by omega)).2
 obtain ⟨r6, f6, g6⟩ := sz156 (@vL K206 a0.2.2.2.2.2.2.2.2.2.2.2.2.2.2.1) r5 (rmk (rhd (rtl (rtl (rtl (rtl (rtl (rtl (rtl (rtl (rtl (rtl (rtl (rtl (rtl (rtl hok))))))))))))))) trivial) (by omega) (by omega)
 by_cases n6 : r6 < 0
 ·exact ⟨-1, go96 fun n hn => Ev.now fun fuel => by unfold T96; exact (call_step (f0 n (by omega))).trans <| (bif_neg n0).trans <| (call_step (f1 n (by omega))).trans <| (bif_neg n1).trans <| (call_step (f2 n (by omega))).trans <| (bif_neg n2).trans <| (call_step (f3 n (by omega))).trans <| (bif_neg n3).trans <| (call_step (f4 n (by omega))).trans <| (bif_neg n4).trans <| (call_step (f5 n (by omega))).trans <| (bif_neg n5).trans <| (call_step (f6 n (by omega))).trans <| (bif_pos n6), by omega⟩
 have l6 := (g6 (by omega)).1
 replace l6 : r6 + (szT (.sl K206) a0.2.2.2.2.2.2.2.2.2.2.2.2.2.2.1 + 0) ≤ r5 := l6
 have z6 : 0 ≤ szR K123 ((@vL K206 a0.2.2.2.2.2.2.2.2.2.2.2.2.2.2.1), ()) := szR_nn _ _
 replace z6 : 0 ≤ (szT (.sl K206) a0.2.2.2.2.2.2.2.2.2.2.2.2.2.2.1 + 0) := z6
 have s14 := shd (g6 (by omega)).2
 obtain ⟨r7, f7, g7⟩ := sz157 (@vL K208 a0.2.2.2.2.2.2.2.2.2.2.2.2.2.2.2.2.2.2.1) r6 (rmk (rhd (rtl (rtl (rtl (rtl (rtl (rtl (rtl (rtl (rtl (rtl (rtl (rtl (rtl (rtl (rtl (rtl (rtl (rtl hok))))))))))))))))))) trivial) (by omega) (by omega)
 by_cases n7 : r7 < 0
 ·exact ⟨-1, go96 fun n hn => Ev.now fun fuel => by unfold T96; exact (call_step (f0 n (by omega))).trans <| (bif_neg n0).trans <| (call_step (f1 n (by omega))).trans <| (bif_neg n1).trans <| (call_step (f2 n (by omega))).trans <| (bif_neg n2).trans <| (call_step (f3 n (by omega))).trans <| (bif_neg n3).trans <| (call_step (f4 n (by omega))).trans <| (bif_neg n4).trans <| (call_step (f5 n (by omega))).trans <| (bif_neg n5).trans <| (call_step (f6 n (by omega))).trans <| (bif_neg n6).trans <| (call_step (f7 n (by omega))).trans <| (bif_pos n7), by omega⟩
 have l7 := (g7 (by omega)).1
 replace l7 : r7 + (szT (.sl K208) a0.2.2.2.2.2.2.2.2.2.2.2.2.2.2.2.2.2.2.1 + 0) ≤ r6 := l7
 have z7 : 0 ≤ szR K124 ((@vL K208 a0.2.2.2.2.2.2.2.2.2.2.2.2.2.2.2.2.2.2.1), ()) := szR_nn _ _
 replace z7 : 0 ≤ (szT (.sl K208) a0.2.2.2.2.2.2.2.2.2.2.2.2.2.2.2.2.2.2.1 + 0) := z7
 have s18 := shd (g7 (by omega)).2
 exact ⟨r7, go96 fun n hn => Ev.now fun fuel => by unfold T96; exact (call_step (f0 n (by omega))).trans <| (bif_neg n0).trans <| (call_step (f1 n (by omega))).trans <| (bif_neg n1).trans <| (call_step (f2 n (by omega))).trans <| (bif_neg n2).trans <| (call_step (f3 n (by omega))).trans <| (bif_neg n3).trans <| (call_step (f4 n (by omega))).trans <| (bif_neg n4).trans <| (call_step (f5 n (by omega))).trans <| (bif_neg n5).trans <| (call_step (f6 n (by omega))).trans <| (bif_neg n6).trans <| (call_step (f7 n (by omega))).trans <| (bif_neg n7).trans <|  rfl, fun _ => ⟨by show _ + (0 + (0 + (szT (.sl K136) a0.2.2.1 + (szT (.sl K149) a0.2.2.2.1 + (szT (.sl K3) a0.2.2.2.2.1 + (0 + (0 + (0 + (szT (.sl K40) a0.2.2.2.2.2.2.2.2.1 + (szT (.sl K3) a0.2.2.2.2.2.2.2.2.2.1 + (szT (.sl K3) a0.2.2.2.2.2.2.2.2.2.2.1 + (szT (.sl K43) a0.2.2.2.2.2.2.2.2.2.2.2.1 + (0 + (0 + (szT (.sl K206) a0.2.2.2.2.2.2.2.2.2.2.2.2.2.2.1 + (0 + (0 + (0 + (szT (.sl K208) a0.2.2.2.2.2.2.2.2.2.2.2.2.2.2.2.2.2.2.1 + 0))))))))))))))))))) ≤ _; omega, (smk trivial (smk trivial (smk s2 (smk s3 (smk s4 (smk s5 (smk s6 (smk s7 (smk s8 (smk s9 (smk s10 (smk s11 (smk trivial (smk trivial (smk s14 (smk trivial (smk trivial (smk trivial (smk s18 trivial)))))))))))))))))))⟩⟩
theorem to104 (a0 : Row K126) (hs : Small K126 a0) : Ran p 7 104 [.val true ⟨K126, a0⟩] ⟨[⟨K73, a0⟩], []⟩ := go104 fun n hn => Ev.now fun fuel => by
 unfold T104; exact (call_step (to18 ((@vL K136 a0.2.2.1), (@vL K149 a0.2.2.2.1), ()) (smk (shd (stl (stl hs))) (smk (shd (stl (stl (stl hs)))) trivial)) n (by omega))).trans <| (call_step (to160 ((@vL K3 a0.2.2.2.2.1), (vI a0.2.2.2.2.2.1), ()) (smk (shd (stl (stl (stl (stl hs))))) (smk (shd (stl (stl (stl (stl (stl hs)))))) trivial)) n (by omega))).trans <| (call_step (to161 ((vI a0.2.2.2.2.2.2.1), (vI a0.2.2.2.2.2.2.2.1), (@vL K40 a0.2.2.2.2.2.2.2.2.1), ()) (smk (shd (stl (stl (stl (stl (stl (stl hs))))))) (smk (shd (stl (stl (stl (stl (stl (stl (stl hs)))))))) (smk (shd (stl (stl (stl (stl (stl (stl (stl (stl hs))))))))) trivial))) n (by omega))).trans <| (call_step (to29 (@vL K3 a0.2.2.2.2.2.2.2.2.2.1) (smk (shd (stl (stl (stl (stl (stl (stl (stl (stl (stl hs)))))))))) trivial) n (by omega))).trans <| (call_step (to29 (@vL K3 a0.2.2.2.2.2.2.2.2.2.2.1) (smk (shd (stl (stl (stl (stl (stl (stl (stl (stl (stl (stl hs))))))))))) trivial) n (by omega))).trans <| (call_step (to162 (@vL K43 a0.2.2.2.2.2.2.2.2.2.2.2.1) (smk (shd (stl (stl (stl (stl (stl (stl (stl (stl (stl (stl (stl hs)))))))))))) trivial) n (by omega))).trans <| (call_step (to163 (@vL K206 a0.2.2.2.2.2.2.2.2.2.2.2.2.2.2.1) (smk (shd (stl (stl (stl (stl (stl (stl (stl (stl (stl (stl (stl (stl (stl (stl hs))))))))))))))) trivial) n (by omega))).trans <| (call_step (to164 (@vL K208 a0.2.2.2.2.2.2.2.2.2.2.2.2.2.2.2.2.2.2.1) (smk (shd (stl (stl (stl (stl (stl (stl (stl (stl (stl (stl (stl (stl (stl (stl (stl (stl (stl (stl hs))))))))))))))))))) trivial) n (by omega))).trans <|  rfl
theorem eq39 (a0_0 : List (Row K73)) (hs : LmR K22 (a0_0, ())) : Ran p 8 39 [.val false ⟨K22, (a0_0, ())⟩, .val false ⟨K22, (a0_0, ())⟩] ⟨[⟨K4, (true, ())⟩], []⟩ := go39 fun n hn => by
 have hl : List.length a0_0 ≤ 4611686018427387904 := (lsl hs).1
 refine Ev.eq (fun fuel => by unfold T39; simp only [bne_self_eq_false, cond_false]; rfl) ?_
 refine It.ev (c := fun fuel (_ : Unit) => c39_4 (arun p n) fuel a0_0 a0_0) (i := ()) (r := fun _ => some ⟨[⟨K4, (true, ())⟩], []⟩) ?_ rfl
 refine eq_loop a0_0.length (fun i => (i : Int)) (fun i hi fuel a rec => ?_) (fun fuel a rec => ?_)
 ·have f := eq83 a0_0[i] ((lsl hs).2 i a0_0[i] (at_lt hi)) n (by omega)
  show c39_4 (arun p n) fuel a0_0 a0_0 rec (i : Int) = _; unfold c39_4; simp only [dec_lt hi, dec_nn, Int.toNat_natCast, at_lt hi, Option.bind_some, cond_true, cond_false, bne_self_eq_false, Bool.not_true, call_step' f, wrap_succ (show i < 9223372036854775807 by omega)]
 ·show c39_4 (arun p n) fuel a0_0 a0_0 rec ((List.length a0_0 : Nat) : Int) = _; unfold c39_4; simp only [dec_end, cond_false]
theorem sz48 (a0_0 : List (Row K126)) (left : Int) (hok : ROkay K32 (a0_0, ())) (h0 : 0 ≤ left) (h1 : left ≤ 1048576) : ∃ r : Int, Ran p 8 48 [.val false ⟨K32, (a0_0, ())⟩, .val false ⟨K3, (left, ())⟩] ⟨[⟨K3, (r, ())⟩], []⟩ ∧ (0 ≤ r → r + szR K32 (a0_0, ()) ≤ left ∧ Small K32 (a0_0, ())) := by
 have hl : ((List.length a0_0 : Nat) : Int) ≤ 9223372036854775807 := by have := (rsl hok).1; exact Int.ofNat_le.2 this
 have hw : IntKind.i64.wrap (left - ((List.length a0_0 : Nat) : Int)) = left - ((List.length a0_0 : Nat) : Int) := wrap64 (by omega) (by omega)
 by_cases hn : left - ((List.length a0_0 : Nat) : Int) < 0
 ·exact ⟨-1, go48 fun n hn' => Ev.now fun fuel => by unfold T48; rw [hw]; exact bif_pos hn, by omega⟩
 ·refine szl_factM (p := p) (lvl := 7) (xs := a0_0) (S := fun r => Small K126 r) (M := fun r => szR K126 r) (fun r => szR_nn _ _) (st := fun (i : Nat) (l : Int) => (l, (i : Int))) (W := fun n fuel => T48 (arun p n) fuel a0_0 left) (c := fun n fuel (_ : Unit) => c48_5 (arun p n) fuel a0_0) (l0 := left - ((List.length a0_0 : Nat) : Int)) (f := fun x l => [.val true ⟨K126, x⟩, .val false ⟨K3, (l, ())⟩]) (q := 96) (r0 := fun r => ⟨[⟨K3, (r, ())⟩], []⟩) ?_ ?_ ?_ ?_ (by omega) (by omega) (fun r hr hp => ⟨r, go48 fun n hn => hr n hn, fun h => ⟨by have := (hp h).1; show r + (((List.length a0_0 : Nat) : Int) + sumI (szR K126) a0_0 + 0) ≤ left; replace this : r + sumI (szR K126) a0_0 ≤ _ := this; omega, ssm (Int.ofNat_le.1 (by show _ ≤ (1048576 : Int); omega)) fun i r hr => ?_⟩⟩)
  ·intro i hi l h2 h3; obtain ⟨r, f, g⟩ := sz96 a0_0[i] l ((rsl hok).2 i a0_0[i] (at_lt hi)) h2 h3; exact ⟨r, g, fun n hn => f n (by omega)⟩
  ·intro n _ fuel; show T48 (arun p n) fuel a0_0 left = _; unfold T48; rw [hw]; exact bif_neg hn
  ·intro n fuel a rec i hi l r hr; replace hr : arun p n 96 [.val true ⟨K126, a0_0[i]⟩, .val false ⟨K3, (l, ())⟩] = some ⟨[⟨K3, (r, ())⟩], []⟩ := hr; show c48_5 (arun p n) fuel a0_0 rec (l, (i : Int)) = _; unfold c48_5; simp only [dec_lt hi, dec_nn, Int.toNat_natCast, at_lt hi, Option.bind_some, cond_true, call_step' hr, wrap_succ (show i < 9223372036854775807 by omega)]
  ·intro n fuel a rec l; show c48_5 (arun p n) fuel a0_0 rec (l, ((List.length a0_0 : Nat) : Int)) = _; unfold c48_5; simp only [dec_end, cond_false]
  ·obtain ⟨hi, rfl⟩ := at_some hr; have := (hp h).2 i hi; exact this
theorem to55 (a0_0 : List (Row K126)) (hs : Small K32 (a0_0, ())) : Ran p 8 55 [.val false ⟨K32, (a0_0, ())⟩] ⟨[⟨K22, (a0_0, ())⟩], []⟩ := go55 fun n hn => by
 have hl : List.length a0_0 ≤ 1048576 := (ssl hs).1
 refine Ev.eq (fun fuel => by unfold T55; exact bif_and3 (Int.natCast_nonneg _) (Int.ofNat_le.2 (Nat.le_trans hl (by decide))) rfl) ?_
 refine It.ev (c := fun fuel (_ : Unit) => c55_3 (arun p n) fuel a0_0) (i := ()) (r := fun _ => some ⟨[⟨K22, (a0_0, ())⟩], []⟩) ?_ rfl
 refine to_loop (α := Row K73) a0_0 (zeroRow K73) (fun i ys => ((i : Int), ys)) (fun i hi ys hy fuel a rec => ?_) (fun fuel a rec => ?_)
 ·have hy' : i < ys.length := by rw [hy]; exact hi
  have hi1 : i < List.length (α := Row K126) a0_0 := hi
  have hb : i < 9223372036854775807 := Nat.lt_of_lt_of_le hi (Nat.le_trans hl (by decide))
  have f := to104 a0_0[i] ((ssl hs).2 i a0_0[i] (at_lt hi)) n (by omega)
  show c55_3 (arun p n) fuel a0_0 rec ((i : Int), ys) = _; unfold c55_3; simp only [dec_lt hi1, dec_nn, Int.toNat_natCast, at_lt hi1, at_lt hy', Option.bind_some, cond_true, call_step' f, wrap_succ hb] <;> rfl
 ·show c55_3 (arun p n) fuel a0_0 rec (((List.length a0_0 : Nat) : Int), a0_0) = _; unfold c55_3; simp only [dec_end, cond_false] <;> rfl
theorem eq11 (a0 : Row K26) (hs : LmR K26 a0) : Ran p 9 11 [.val true ⟨K26, a0⟩, .val true ⟨K26, a0⟩] ⟨[⟨K4, (true, ())⟩], []⟩ := go11 fun n hn => Ev.now fun fuel => by
 have f0 := eq39 (@vL K73 a0.1) (lmk (lhd hs) trivial) n (by omega)
 have f1 := eq40 (@vL K108 a0.2.1) (lmk (lhd (ltl hs)) trivial) n (by omega)
 have f2 := eq41 (@vL K90 a0.2.2.1) (lmk (lhd (ltl (ltl hs))) trivial) n (by omega)
 unfold T11; simp only [call_step' f0, call_step' f1, call_step' f2, bne_self_eq_false, beq_self_eq_true, beqB_self, Bool.not_true, cond_false, cond_true]
theorem sz14 (a0 : Row K36) (left : Int) (hok : ROkay K36 a0) (h0 : 0 ≤ left) (h1 : left ≤ 1048576) : ∃ r : Int, Ran p 9 14 [.val true ⟨K36, a0⟩, .val false ⟨K3, (left, ())⟩] ⟨[⟨K3, (r, ())⟩], []⟩ ∧ (0 ≤ r → r + szR K36 a0 ≤ left ∧ Small K36 a0) := by
 obtain ⟨r0, f0, g0⟩ := sz48 (@vL K126 a0.1) left (rmk (rhd hok) trivial) (by omega) (by omega)
 by_cases n0 : r0 < 0
 ·exact ⟨-1, go14 fun n hn => Ev.now fun fuel => by unfold T14; exact (call_step (f0 n (by omega))).trans <| (bif_pos n0), by omega⟩
 have l0 := (g0 (by omega)).1
 replace l0 : r0 + (szT (.sl K126) a0.1 + 0) ≤ left := l0
 have z0 : 0 ≤ szR K32 ((@vL K126 a0.1), ()) := szR_nn _ _
 replace z0 : 0 ≤ (szT (.sl K126) a0.1 + 0) := z0
 have s0 := shd (g0 (by omega)).2
 obtain ⟨r1, f1, g1⟩ := sz49 (@vL K128 a0.2.1) r0 (rmk (rhd (rtl hok)) trivial) (by omega) (by omega)
 by_cases n1 : r1 < 0
 ·exact ⟨-1, go14 fun n hn => Ev.now fun fuel => by unfold T14; exact (call_step (f0 n (by omega))).trans <| (bif_neg n0).trans <| (call_step (f1 n (by omega))).trans <| (bif_pos n1), by omega⟩
 have l1 := (g1 (by omega)).1
 replace l1 : r1 + (szT (.sl K128) a0.2.1 + 0) ≤ r0 := l1
 have z1 : 0 ≤ szR K33 ((@vL K128 a0.2.1), ()) := szR_nn _ _
 replace z1 : 0 ≤ (szT (.sl K128) a0.2.1 + 0) := z1
 have s1 := shd (g1 (by omega)).2
 obtain ⟨r2, f2, g2⟩ := sz50 (@vL K131 a0.2.2.1) r1 (rmk (rhd (rtl (rtl hok))) trivial) (by omega) (by omega)
 by_cases n2 : r2 < 0
 ·exact ⟨-1, go14 fun n hn => Ev.now fun fuel => by unfold T14; exact (call_step (f0 n (by omega))).trans <| (bif_neg n0).trans <| (call_step (f1 n (by omega))).trans <| (bif_neg n1).trans <| (call_step (f2 n (by omega))).trans <| (bif_pos n2), by omega⟩
 have l2 := (g2 (by omega)).1
 replace l2 : r2 + (szT (.sl K131) a0.2.2.1 + 0) ≤ r1 := l2
 have z2 : 0 ≤ szR K34 ((@vL K131 a0.2.2.1), ()) := szR_nn _ _
 replace z2 : 0 ≤ (szT (.sl K131) a0.2.2.1 + 0) := z2
 have s2 := shd (g2 (by omega)).2
 exact ⟨r2, go14 fun n hn => Ev.now fun fuel => by unfold T14; exact (call_step (f0 n (by omega))).trans <| (bif_neg n0).trans <| (call_step (f1 n (by omega))).trans <| (bif_neg n1).trans <| (call_step (f2 n (by omega))).trans <| (bif_neg n2).trans <|  rfl, fun _ => ⟨by show _ + (szT (.sl K126) a0.1 + (szT (.sl K128) a0.2.1 + (szT (.sl K131) a0.2.2.1 + 0))) ≤ _; omega, (smk s0 (smk s1 (smk s2 trivial)))⟩⟩
theorem to17 (a0 : Row K36) (hs : Small K36 a0) : Ran p 9 17 [.val true ⟨K36, a0⟩] ⟨[⟨K26, a0⟩], []⟩ := go17 fun n hn => Ev.now fun fuel => by
 unfold T17; exact (call_step (to55 (@vL K126 a0.1) (smk (shd hs) trivial) n (by omega))).trans <| (call_step (to56 (@vL K128 a0.2.1) (smk (shd (stl hs)) trivial) n (by omega))).trans <| (call_step (to57 (@vL K131 a0.2.2.1) (smk (shd (stl (stl hs))) trivial) n (by omega))).trans <|  rfl
end Go.Abs.Gz
