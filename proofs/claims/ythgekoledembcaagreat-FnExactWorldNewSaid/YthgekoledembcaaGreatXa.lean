/- What the functions of this program answer, part a. -/
import Derived.Test.YthgekoledembcaaGreatXr0
import Derived.Test.YthgekoledembcaaGreatXr1
import Derived.Test.YthgekoledembcaaGreatW2
set_option linter.unusedVariables false
set_option linter.unusedSimpArgs false
namespace Go.Abs.Gz
open Go Go.Abs
theorem eq20 (a0_0 : List (Row K3)) (hs : LmR K43 (a0_0, ())) : Ran p 1 20 [.val false ⟨K43, (a0_0, ())⟩, .val false ⟨K43, (a0_0, ())⟩] ⟨[⟨K4, (true, ())⟩], []⟩ := go20 fun n hn => by
  have hl : List.length a0_0 ≤ 4611686018427387904 := (lsl hs).1
  refine Ev.eq (fun fuel => by unfold T20; simp only [bne_self_eq_false, cond_false]; rfl) ?_
  refine It.ev (c := fun fuel (_ : Unit) => c20_4 (arun p n) fuel a0_0 a0_0) (i := ()) (r := fun _ => some ⟨[⟨K4, (true, ())⟩], []⟩) ?_ rfl
  refine eq_loop a0_0.length (fun i => (i : Int)) (fun i hi fuel a rec => ?_) (fun fuel a rec => ?_)
  · skip
    show c20_4 (arun p n) fuel a0_0 a0_0 rec (i : Int) = _; unfold c20_4; simp only [dec_lt hi, dec_nn, Int.toNat_natCast, at_lt hi, Option.bind_some, cond_true, cond_false, bne_self_eq_false, Bool.not_true, wrap_succ (show i < 9223372036854775807 by omega)]
  · show c20_4 (arun p n) fuel a0_0 a0_0 rec ((List.length a0_0 : Nat) : Int) = _; unfold c20_4; simp only [dec_end, cond_false]
theorem eq115 (a0 : Row K143) (hs : LmR K143 a0) : Ran p 1 115 [.val true ⟨K143, a0⟩, .val true ⟨K143, a0⟩] ⟨[⟨K4, (true, ())⟩], []⟩ := go115 fun n hn => Ev.now fun fuel => by
  unfold T115; simp only [bne_self_eq_false, beq_self_eq_true, beqB_self, Bool.not_true, cond_false, cond_true]
theorem eq151 (a0_0 : List (Row K5)) (hs : LmR K106 (a0_0, ())) : Ran p 1 151 [.val false ⟨K106, (a0_0, ())⟩, .val false ⟨K106, (a0_0, ())⟩] ⟨[⟨K4, (true, ())⟩], []⟩ := go151 fun n hn => by
  have hl : List.length a0_0 ≤ 4611686018427387904 := (lsl hs).1
  refine Ev.eq (fun fuel => by unfold T151; simp only [bne_self_eq_false, cond_false]; rfl) ?_
  refine It.ev (c := fun fuel (_ : Unit) => c151_4 (arun p n) fuel a0_0 a0_0) (i := ()) (r := fun _ => some ⟨[⟨K4, (true, ())⟩], []⟩) ?_ rfl
  refine eq_loop a0_0.length (fun i => (i : Int)) (fun i hi fuel a rec => ?_) (fun fuel a rec => ?_)
  · skip
    show c151_4 (arun p n) fuel a0_0 a0_0 rec (i : Int) = _; unfold c151_4; simp only [dec_lt hi, dec_nn, Int.toNat_natCast, at_lt hi, Option.bind_some, cond_true, cond_false, bne_self_eq_false, Bool.not_true, wrap_succ (show i < 9223372036854775807 by omega)]
  · show c151_4 (arun p n) fuel a0_0 a0_0 rec ((List.length a0_0 : Nat) : Int) = _; unfold c151_4; simp only [dec_end, cond_false]
theorem eq169 (a0 : Row K137) (hs : LmR K137 a0) : Ran p 1 169 [.val true ⟨K137, a0⟩, .val true ⟨K137, a0⟩] ⟨[⟨K4, (true, ())⟩], []⟩ := go169 fun n hn => Ev.now fun fuel => by
  unfold T169; simp only [bne_self_eq_false, beq_self_eq_true, beqB_self, Bool.not_true, cond_false, cond_true]
theorem eq194 (a0 : Row K163) (hs : LmR K163 a0) : Ran p 1 194 [.val true ⟨K163, a0⟩, .val true ⟨K163, a0⟩] ⟨[⟨K4, (true, ())⟩], []⟩ := go194 fun n hn => Ev.now fun fuel => by
  unfold T194; simp only [bne_self_eq_false, beq_self_eq_true, beqB_self, Bool.not_true, cond_false, cond_true]
theorem eq195 (a0 : Row K171) (hs : LmR K171 a0) : Ran p 1 195 [.val true ⟨K171, a0⟩, .val true ⟨K171, a0⟩] ⟨[⟨K4, (true, ())⟩], []⟩ := go195 fun n hn => Ev.now fun fuel => by
  unfold T195; simp only [bne_self_eq_false, beq_self_eq_true, beqB_self, Bool.not_true, cond_false, cond_true]
theorem eq63 (a0_0 : List (Row K143)) (hs : LmR K47 (a0_0, ())) : Ran p 2 63 [.val false ⟨K47, (a0_0, ())⟩, .val false ⟨K47, (a0_0, ())⟩] ⟨[⟨K4, (true, ())⟩], []⟩ := go63 fun n hn => by
  have hl : List.length a0_0 ≤ 4611686018427387904 := (lsl hs).1
  refine Ev.eq (fun fuel => by unfold T63; simp only [bne_self_eq_false, cond_false]; rfl) ?_
  refine It.ev (c := fun fuel (_ : Unit) => c63_4 (arun p n) fuel a0_0 a0_0) (i := ()) (r := fun _ => some ⟨[⟨K4, (true, ())⟩], []⟩) ?_ rfl
  refine eq_loop a0_0.length (fun i => (i : Int)) (fun i hi fuel a rec => ?_) (fun fuel a rec => ?_)
  · have f := eq115 a0_0[i] ((lsl hs).2 i a0_0[i] (at_lt hi)) n (by omega)
    show c63_4 (arun p n) fuel a0_0 a0_0 rec (i : Int) = _; unfold c63_4; simp only [dec_lt hi, dec_nn, Int.toNat_natCast, at_lt hi, Option.bind_some, cond_true, cond_false, bne_self_eq_false, Bool.not_true, call_step' f, wrap_succ (show i < 9223372036854775807 by omega)]
  · show c63_4 (arun p n) fuel a0_0 a0_0 rec ((List.length a0_0 : Nat) : Int) = _; unfold c63_4; simp only [dec_end, cond_false]
theorem eq84 (a0 : Row K108) (hs : LmR K108 a0) : Ran p 2 84 [.val true ⟨K108, a0⟩, .val true ⟨K108, a0⟩] ⟨[⟨K4, (true, ())⟩], []⟩ := go84 fun n hn => Ev.now fun fuel => by
  have f0 := eq151 (@vL K5 a0.2.1) (lmk (lhd (ltl hs)) trivial) n (by omega)
  unfold T84; simp only [call_step' f0, bne_self_eq_false, beq_self_eq_true, beqB_self, Bool.not_true, cond_false, cond_true]
theorem eq114 (a0 : Row K139) (hs : LmR K139 a0) : Ran p 2 114 [.val true ⟨K139, a0⟩, .val true ⟨K139, a0⟩] ⟨[⟨K4, (true, ())⟩], []⟩ := go114 fun n hn => Ev.now fun fuel => by
  have f0 := eq169 a0.2 (ltl hs) n (by omega)
  unfold T114; simp only [call_step' f0, bne_self_eq_false, beq_self_eq_true, beqB_self, Bool.not_true, cond_false, cond_true]
theorem eq146 (a0 : Row K65) (hs : LmR K65 a0) : Ran p 2 146 [.val true ⟨K65, a0⟩, .val true ⟨K65, a0⟩] ⟨[⟨K4, (true, ())⟩], []⟩ := go146 fun n hn => Ev.now fun fuel => by
  have f0 := eq20 (@vL K3 a0.1) (lmk (lhd hs) trivial) n (by omega)
  unfold T146; simp only [call_step' f0, bne_self_eq_false, beq_self_eq_true, beqB_self, Bool.not_true, cond_false, cond_true]
theorem eq148 (a0_0 : List (Row K43)) (hs : LmR K69 (a0_0, ())) : Ran p 2 148 [.val false ⟨K69, (a0_0, ())⟩, .val false ⟨K69, (a0_0, ())⟩] ⟨[⟨K4, (true, ())⟩], []⟩ := go148 fun n hn => by
  have hl : List.length a0_0 ≤ 4611686018427387904 := (lsl hs).1
  refine Ev.eq (fun fuel => by unfold T148; simp only [bne_self_eq_false, cond_false]; rfl) ?_
  refine It.ev (c := fun fuel (_ : Unit) => c148_4 (arun p n) fuel a0_0 a0_0) (i := ()) (r := fun _ => some ⟨[⟨K4, (true, ())⟩], []⟩) ?_ rfl
  refine eq_loop a0_0.length (fun i => (i : Int)) (fun i hi fuel a rec => ?_) (fun fuel a rec => ?_)
  · have f := eq20 a0_0[i].1 ((lsl hs).2 i a0_0[i] (at_lt hi)) n (by omega)
    show c148_4 (arun p n) fuel a0_0 a0_0 rec (i : Int) = _; unfold c148_4; simp only [dec_lt hi, dec_nn, Int.toNat_natCast, at_lt hi, Option.bind_some, cond_true, cond_false, bne_self_eq_false, Bool.not_true, call_step' f, wrap_succ (show i < 9223372036854775807 by omega)]
  · show c148_4 (arun p n) fuel a0_0 a0_0 rec ((List.length a0_0 : Nat) : Int) = _; unfold c148_4; simp only [dec_end, cond_false]
theorem eq149 (a0_0 : List (Row K163)) (hs : LmR K70 (a0_0, ())) : Ran p 2 149 [.val false ⟨K70, (a0_0, ())⟩, .val false ⟨K70, (a0_0, ())⟩] ⟨[⟨K4, (true, ())⟩], []⟩ := go149 fun n hn => by
  have hl : List.length a0_0 ≤ 4611686018427387904 := (lsl hs).1
  refine Ev.eq (fun fuel => by unfold T149; simp only [bne_self_eq_false, cond_false]; rfl) ?_
  refine It.ev (c := fun fuel (_ : Unit) => c149_4 (arun p n) fuel a0_0 a0_0) (i := ()) (r := fun _ => some ⟨[⟨K4, (true, ())⟩], []⟩) ?_ rfl
  refine eq_loop a0_0.length (fun i => (i : Int)) (fun i hi fuel a rec => ?_) (fun fuel a rec => ?_)
  · have f := eq194 a0_0[i] ((lsl hs).2 i a0_0[i] (at_lt hi)) n (by omega)
    show c149_4 (arun p n) fuel a0_0 a0_0 rec (i : Int) = _; unfold c149_4; simp only [dec_lt hi, dec_nn, Int.toNat_natCast, at_lt hi, Option.bind_some, cond_true, cond_false, bne_self_eq_false, Bool.not_true, call_step' f, wrap_succ (show i < 9223372036854775807 by omega)]
  · show c149_4 (arun p n) fuel a0_0 a0_0 rec ((List.length a0_0 : Nat) : Int) = _; unfold c149_4; simp only [dec_end, cond_false]
theorem eq150 (a0_0 : List (Row K171)) (hs : LmR K71 (a0_0, ())) : Ran p 2 150 [.val false ⟨K71, (a0_0, ())⟩, .val false ⟨K71, (a0_0, ())⟩] ⟨[⟨K4, (true, ())⟩], []⟩ := go150 fun n hn => by
  have hl : List.length a0_0 ≤ 4611686018427387904 := (lsl hs).1
  refine Ev.eq (fun fuel => by unfold T150; simp only [bne_self_eq_false, cond_false]; rfl) ?_
  refine It.ev (c := fun fuel (_ : Unit) => c150_4 (arun p n) fuel a0_0 a0_0) (i := ()) (r := fun _ => some ⟨[⟨K4, (true, ())⟩], []⟩) ?_ rfl
  refine eq_loop a0_0.length (fun i => (i : Int)) (fun i hi fuel a rec => ?_) (fun fuel a rec => ?_)
  · have f := eq195 a0_0[i] ((lsl hs).2 i a0_0[i] (at_lt hi)) n (by omega)
    show c150_4 (arun p n) fuel a0_0 a0_0 rec (i : Int) = _; unfold c150_4; simp only [dec_lt hi, dec_nn, Int.toNat_natCast, at_lt hi, Option.bind_some, cond_true, cond_false, bne_self_eq_false, Bool.not_true, call_step' f, wrap_succ (show i < 9223372036854775807 by omega)]
  · show c150_4 (arun p n) fuel a0_0 a0_0 rec ((List.length a0_0 : Nat) : Int) = _; unfold c150_4; simp only [dec_end, cond_false]
theorem eq40 (a0_0 : List (Row K108)) (hs : LmR K23 (a0_0, ())) : Ran p 3 40 [.val false ⟨K23, (a0_0, ())⟩, .val false ⟨K23, (a0_0, ())⟩] ⟨[⟨K4, (true, ())⟩], []⟩ := go40 fun n hn => by
  have hl : List.length a0_0 ≤ 4611686018427387904 := (lsl hs).1
  refine Ev.eq (fun fuel => by unfold T40; simp only [bne_self_eq_false, cond_false]; rfl) ?_
  refine It.ev (c := fun fuel (_ : Unit) => c40_4 (arun p n) fuel a0_0 a0_0) (i := ()) (r := fun _ => some ⟨[⟨K4, (true, ())⟩], []⟩) ?_ rfl
  refine eq_loop a0_0.length (fun i => (i : Int)) (fun i hi fuel a rec => ?_) (fun fuel a rec => ?_)
  · have f := eq84 a0_0[i] ((lsl hs).2 i a0_0[i] (at_lt hi)) n (by omega)
    show c40_4 (arun p n) fuel a0_0 a0_0 rec (i : Int) = _; unfold c40_4; simp only [dec_lt hi, dec_nn, Int.toNat_natCast, at_lt hi, Option.bind_some, cond_true, cond_false, bne_self_eq_false, Bool.not_true, call_step' f, wrap_succ (show i < 9223372036854775807 by omega)]
  · show c40_4 (arun p n) fuel a0_0 a0_0 rec ((List.length a0_0 : Nat) : Int) = _; unfold c40_4; simp only [dec_end, cond_false]
theorem eq62 (a0_0 : List (Row K139)) (hs : LmR K46 (a0_0, ())) : Ran p 3 62 [.val false ⟨K46, (a0_0, ())⟩, .val false ⟨K46, (a0_0, ())⟩] ⟨[⟨K4, (true, ())⟩], []⟩ := go62 fun n hn => by
  have hl : List.length a0_0 ≤ 4611686018427387904 := (lsl hs).1
  refine Ev.eq (fun fuel => by unfold T62; simp only [bne_self_eq_false, cond_false]; rfl) ?_
  refine It.ev (c := fun fuel (_ : Unit) => c62_4 (arun p n) fuel a0_0 a0_0) (i := ()) (r := fun _ => some ⟨[⟨K4, (true, ())⟩], []⟩) ?_ rfl
  refine eq_loop a0_0.length (fun i => (i : Int)) (fun i hi fuel a rec => ?_) (fun fuel a rec => ?_)
  · have f := eq114 a0_0[i] ((lsl hs).2 i a0_0[i] (at_lt hi)) n (by omega)
    show c62_4 (arun p n) fuel a0_0 a0_0 rec (i : Int) = _; unfold c62_4; simp only [dec_lt hi, dec_nn, Int.toNat_natCast, at_lt hi, Option.bind_some, cond_true, cond_false, bne_self_eq_false, Bool.not_true, call_step' f, wrap_succ (show i < 9223372036854775807 by omega)]
  · show c62_4 (arun p n) fuel a0_0 a0_0 rec ((List.length a0_0 : Nat) : Int) = _; unfold c62_4; simp only [dec_end, cond_false]
theorem eq21 (a0 : Row K49) (hs : LmR K49 a0) : Ran p 4 21 [.val true ⟨K49, a0⟩, .val true ⟨K49, a0⟩] ⟨[⟨K4, (true, ())⟩], []⟩ := go21 fun n hn => Ev.now fun fuel => by
  have f0 := eq62 (@vL K139 a0.1) (lmk (lhd hs) trivial) n (by omega)
  have f1 := eq63 (@vL K143 a0.2.1) (lmk (lhd (ltl hs)) trivial) n (by omega)
  unfold T21; simp only [call_step' f0, call_step' f1, bne_self_eq_false, beq_self_eq_true, beqB_self, Bool.not_true, cond_false, cond_true]
theorem eq85 (a0 : Row K90) (hs : LmR K90 a0) : Ran p 5 85 [.val true ⟨K90, a0⟩, .val true ⟨K90, a0⟩] ⟨[⟨K4, (true, ())⟩], []⟩ := go85 fun n hn => Ev.now fun fuel => by
  have f0 := eq21 a0.2 (ltl hs) n (by omega)
  unfold T85; simp only [call_step' f0, bne_self_eq_false, beq_self_eq_true, beqB_self, Bool.not_true, cond_false, cond_true]
theorem eq193 (a0_0 : List (Row K49)) (hs : LmR K66 (a0_0, ())) : Ran p 5 193 [.val false ⟨K66, (a0_0, ())⟩, .val false ⟨K66, (a0_0, ())⟩] ⟨[⟨K4, (true, ())⟩], []⟩ := go193 fun n hn => by
  have hl : List.length a0_0 ≤ 4611686018427387904 := (lsl hs).1
  refine Ev.eq (fun fuel => by unfold T193; simp only [bne_self_eq_false, cond_false]; rfl) ?_
  refine It.ev (c := fun fuel (_ : Unit) => c193_4 (arun p n) fuel a0_0 a0_0) (i := ()) (r := fun _ => some ⟨[⟨K4, (true, ())⟩], []⟩) ?_ rfl
  refine eq_loop a0_0.length (fun i => (i : Int)) (fun i hi fuel a rec => ?_) (fun fuel a rec => ?_)
  · have f := eq21 a0_0[i] ((lsl hs).2 i a0_0[i] (at_lt hi)) n (by omega)
    show c193_4 (arun p n) fuel a0_0 a0_0 rec (i : Int) = _; unfold c193_4; simp only [dec_lt hi, dec_nn, Int.toNat_natCast, at_lt hi, Option.bind_some, cond_true, cond_false, bne_self_eq_false, Bool.not_true, call_step' f, wrap_succ (show i < 9223372036854775807 by omega)]
  · show c193_4 (arun p n) fuel a0_0 a0_0 rec ((List.length a0_0 : Nat) : Int) = _; unfold c193_4; simp only [dec_end, cond_false]
theorem eq41 (a0_0 : List (Row K90)) (hs : LmR K24 (a0_0, ())) : Ran p 6 41 [.val false ⟨K24, (a0_0, ())⟩, .val false ⟨K24, (a0_0, ())⟩] ⟨[⟨K4, (true, ())⟩], []⟩ := go41 fun n hn => by
  have hl : List.length a0_0 ≤ 4611686018427387904 := (lsl hs).1
  refine Ev.eq (fun fuel => by unfold T41; simp only [bne_self_eq_false, cond_false]; rfl) ?_
  refine It.ev (c := fun fuel (_ : Unit) => c41_4 (arun p n) fuel a0_0 a0_0) (i := ()) (r := fun _ => some ⟨[⟨K4, (true, ())⟩], []⟩) ?_ rfl
  refine eq_loop a0_0.length (fun i => (i : Int)) (fun i hi fuel a rec => ?_) (fun fuel a rec => ?_)
  · have f := eq85 a0_0[i] ((lsl hs).2 i a0_0[i] (at_lt hi)) n (by omega)
    show c41_4 (arun p n) fuel a0_0 a0_0 rec (i : Int) = _; unfold c41_4; simp only [dec_lt hi, dec_nn, Int.toNat_natCast, at_lt hi, Option.bind_some, cond_true, cond_false, bne_self_eq_false, Bool.not_true, call_step' f, wrap_succ (show i < 9223372036854775807 by omega)]
  · show c41_4 (arun p n) fuel a0_0 a0_0 rec ((List.length a0_0 : Nat) : Int) = _; unfold c41_4; simp only [dec_end, cond_false]
theorem eq147 (a0 : Row K68) (hs : LmR K68 a0) : Ran p 6 147 [.val true ⟨K68, a0⟩, .val true ⟨K68, a0⟩] ⟨[⟨K4, (true, ())⟩], []⟩ := go147 fun n hn => Ev.now fun fuel => by
  have f0 := eq193 (@vL K49 a0.2.2.1) (lmk (lhd (ltl (ltl hs))) trivial) n (by omega)
  unfold T147; simp only [call_step' f0, bne_self_eq_false, beq_self_eq_true, beqB_self, Bool.not_true, cond_false, cond_true]
theorem eq83 (a0 : Row K73) (hs : LmR K73 a0) : Ran p 7 83 [.val true ⟨K73, a0⟩, .val true ⟨K73, a0⟩] ⟨[⟨K4, (true, ())⟩], []⟩ := go83 fun n hn => Ev.now fun fuel => by
  have f0 := eq21 ((@vL K139 a0.2.2.1), (@vL K143 a0.2.2.2.1), ()) (lmk (lhd (ltl (ltl hs))) (lmk (lhd (ltl (ltl (ltl hs)))) trivial)) n (by omega)
  have f1 := eq146 ((@vL K3 a0.2.2.2.2.1), (vI a0.2.2.2.2.2.1), ()) (lmk (lhd (ltl (ltl (ltl (ltl hs))))) (lmk (lhd (ltl (ltl (ltl (ltl (ltl hs)))))) trivial)) n (by omega)
  have f2 := eq147 ((vI a0.2.2.2.2.2.2.1), (vI a0.2.2.2.2.2.2.2.1), (@vL K49 a0.2.2.2.2.2.2.2.2.1), ()) (lmk (lhd (ltl (ltl (ltl (ltl (ltl (ltl hs))))))) (lmk (lhd (ltl (ltl (ltl (ltl (ltl (ltl (ltl hs)))))))) (lmk (lhd (ltl (ltl (ltl (ltl (ltl (ltl (ltl (ltl hs))))))))) trivial))) n (by omega)
  have f3 := eq20 (@vL K3 a0.2.2.2.2.2.2.2.2.2.1) (lmk (lhd (ltl (ltl (ltl (ltl (ltl (ltl (ltl (ltl (ltl hs)))))))))) trivial) n (by omega)
  have f4 := eq20 (@vL K3 a0.2.2.2.2.2.2.2.2.2.2.1) (lmk (lhd (ltl (ltl (ltl (ltl (ltl (ltl (ltl (ltl (ltl (ltl hs))))))))))) trivial) n (by omega)
  have f5 := eq148 (@vL K43 a0.2.2.2.2.2.2.2.2.2.2.2.1) (lmk (lhd (ltl (ltl (ltl (ltl (ltl (ltl (ltl (ltl (ltl (ltl (ltl hs)))))))))))) trivial) n (by omega)
  have f6 := eq149 (@vL K163 a0.2.2.2.2.2.2.2.2.2.2.2.2.2.2.1) (lmk (lhd (ltl (ltl (ltl (ltl (ltl (ltl (ltl (ltl (ltl (ltl (ltl (ltl (ltl (ltl hs))))))))))))))) trivial) n (by omega)
  have f7 := eq150 (@vL K171 a0.2.2.2.2.2.2.2.2.2.2.2.2.2.2.2.2.2.2.1) (lmk (lhd (ltl (ltl (ltl (ltl (ltl (ltl (ltl (ltl (ltl (ltl (ltl (ltl (ltl (ltl (ltl (ltl (ltl (ltl hs))))))))))))))))))) trivial) n (by omega)
  unfold T83; simp only [call_step' f0, call_step' f1, call_step' f2, call_step' f3, call_step' f4, call_step' f5, call_step' f6, call_step' f7, bne_self_eq_false, beq_self_eq_true, beqB_self, Bool.not_true, cond_false, cond_true]
theorem eq39 (a0_0 : List (Row K73)) (hs : LmR K22 (a0_0, ())) : Ran p 8 39 [.val false ⟨K22, (a0_0, ())⟩, .val false ⟨K22, (a0_0, ())⟩] ⟨[⟨K4, (true, ())⟩], []⟩ := go39 fun n hn => by
  have hl : List.length a0_0 ≤ 4611686018427387904 := (lsl hs).1
  refine Ev.eq (fun fuel => by unfold T39; simp only [bne_self_eq_false, cond_false]; rfl) ?_
  refine It.ev (c := fun fuel (_ : Unit) => c39_4 (arun p n) fuel a0_0 a0_0) (i := ()) (r := fun _ => some ⟨[⟨K4, (true, ())⟩], []⟩) ?_ rfl
  refine eq_loop a0_0.length (fun i => (i : Int)) (fun i hi fuel a rec => ?_) (fun fuel a rec => ?_)
  · have f := eq83 a0_0[i] ((lsl hs).2 i a0_0[i] (at_lt hi)) n (by omega)
    show c39_4 (arun p n) fuel a0_0 a0_0 rec (i : Int) = _; unfold c39_4; simp only [dec_lt hi, dec_nn, Int.toNat_natCast, at_lt hi, Option.bind_some, cond_true, cond_false, bne_self_eq_false, Bool.not_true, call_step' f, wrap_succ (show i < 9223372036854775807 by omega)]
  · show c39_4 (arun p n) fuel a0_0 a0_0 rec ((List.length a0_0 : Nat) : Int) = _; unfold c39_4; simp only [dec_end, cond_false]
theorem eq11 (a0 : Row K26) (hs : LmR K26 a0) : Ran p 9 11 [.val true ⟨K26, a0⟩, .val true ⟨K26, a0⟩] ⟨[⟨K4, (true, ())⟩], []⟩ := go11 fun n hn => Ev.now fun fuel => by
  have f0 := eq39 (@vL K73 a0.1) (lmk (lhd hs) trivial) n (by omega)
  have f1 := eq40 (@vL K108 a0.2.1) (lmk (lhd (ltl hs)) trivial) n (by omega)
  have f2 := eq41 (@vL K90 a0.2.2.1) (lmk (lhd (ltl (ltl hs))) trivial) n (by omega)
  unfold T11; simp only [call_step' f0, call_step' f1, call_step' f2, bne_self_eq_false, beq_self_eq_true, beqB_self, Bool.not_true, cond_false, cond_true]
end Go.Abs.Gz
