/- For every world and every list of numbers, the law FnExactJoined answers true and leaves its arguments as they were. No condition. -/
import Derived.Test.YthgekoledembcaaGreatRows
import Derived.Test.YthgekoledembcaaGreatChecked
import Derived.Test.YthgekoledembcaaGreatXw
import Derived.Test.YthgekoledembcaaGreatXjoiq
import Derived.Test.YthgekoledembcaaGreatW2
import Derived.ProofKit
set_option linter.unusedVariables false
namespace Go.Proofs.YthgekoledembcaaGreat
open Go Go.Abs Go.ChangeShapes Go.WideShapes Go.ChangeAt Go.RowKit
theorem ownNone6 : ownKnob Tryz.prog.godebug = none := by kernel_rfl
theorem law6 (xs : List Abs.Arg) (h : AsR Go.Abs.Gz.p.ti Tryz.f6.params.toList xs) : ∃ n, arun Go.Abs.Gz.p n 6 xs = some trueOut := by
  obtain ⟨i0, row0, ys0, h0a, h0b, h0c, h0d⟩ := h
  replace h0a : some (⟨.struct, 3, 72, Go.Abs.Gz.K36, [(0, 32), (1, 33), (2, 34)], 0⟩ : TyI) = some i0 := h0a
  cases h0a
  obtain ⟨i1, row1, ys1, h1a, h1b, h1c, h1d⟩ := h0d
  replace h1a : some (⟨.slice, 1, 24, Go.Abs.Gz.K43, [], 3⟩ : TyI) = some i1 := h1a
  cases h1a
  have e : ys1 = [] := h1d
  subst e
  subst h1b
  subst h0b
  exact ⟨10, Go.Abs.Gz.law_joined row0 row1.1 h0c h1c 10 (Nat.le_refl _)⟩
set_option maxRecDepth 100000 in
theorem lifted6 (os : Os) (started : os.Started) (H : Type) (enc : TypeId × Value → H) :
    ReturnsInHanded {} Tryz.checked os 6 .any (Rows.fnExactJoinedSpec.pre6 enc Tryz.prog Tryz.f6 Rows.fnExactJoinedRow.domain false) (Rows.fnExactJoinedSpec.post enc Tryz.prog Tryz.f6 false true false false) := by
  refine returnsInHanded_of_change (C := Tryz.checked) ownNone6 started (by kernel_rfl) Tryz.func6
    (ChangeSpec.witness6 (enc := enc) (C := Tryz.checked) false ⟨#[], #[.agg #[.slice none 0 0, .slice none 0 0, .slice none 0 0], .slice none 0 0], []⟩ 8 (by kernel_rfl) (by kernel_rfl) (by kernel_rfl) (by kernel_rfl)) ?_
  intro W base args ds gs before hval0 hW hcnd _
  refine law_contract (conds := []) (a := {}) (p := Go.Abs.Gz.p) Go.Abs.Gz.prg_ok Go.Abs.Gz.k_ok (fun t ht => ?_) (rt := 4) (by kernel_rfl) Tryz.underlying4 (by kernel_rfl) rfl (fun ds h => ?_) law6 W base args ds gs before hval0 hW
  · replace ht : t ∈ [36, 43] := ht
    simp only [List.mem_cons, List.not_mem_nil, or_false] at ht
    rcases ht with rfl | rfl
    · exact ⟨⟨.struct, 3, 72, Go.Abs.Gz.K36, [(0, 32), (1, 33), (2, 34)], 0⟩, rfl, rfl⟩
    · exact ⟨⟨.slice, 1, 24, Go.Abs.Gz.K43, [], 3⟩, rfl, rfl⟩
  · replace h : ds.length = 2 := h
    match ds, h with
    | [d0, d1], _ => rfl
theorem holds6 : Rows.FnExactJoinedSaid :=
  OpenClaim.holds_of_wide 6 Tryz.f6 rfl rfl rfl rfl rfl rfl rfl ⟨rfl, rfl, rfl, rfl, rfl⟩ rfl rfl rfl rfl rfl jn6 Tryz.func6 jf6 ji6 jw6
    (fun os started H enc _ => lifted6 os started H enc)
#print axioms holds6
end Go.Proofs.YthgekoledembcaaGreat
